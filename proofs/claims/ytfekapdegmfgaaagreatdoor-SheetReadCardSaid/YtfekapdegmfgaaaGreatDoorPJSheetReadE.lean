/- Parts of the proof of JSheetRead: laws of walks, contracts of functions, plain models. No condition. -/
import Derived.Lib.SplitLaws
import Derived.RangeFuncLeaves
import Derived.OwnWalkIn
import Derived.TacticsInMore
import Derived.RangeFuncNested
import Derived.Shelf.Abstract
import Derived.LoopNIn
import Derived.LoopIn
import Derived.Test.YtfekapdegmfgaaaGreatDoorPJSheetReadD
set_option linter.unusedVariables false
set_option linter.unusedSimpArgs false
set_option linter.unnecessarySimpa false
set_option maxRecDepth 100000
namespace Go.Proofs
namespace KV
open Tryz
section
variable {r0:Bool}{a m hi lo r1:Int}{i i' Aq base:Nat}

noncomputable abbrev oX:Code:=sub (cd Tryz.f281) [1,0,1,0,0]
theorem bVu{x:UInt8}(h0:(x.toNat:Int)=120):FV Tp 231 [(.p (.v (.int .u8 (x.toNat:Int))))] base (pB true) []:=FV.fi func231 [bT,bT,bT] (Ay (dC h0) gn)
theorem bVv{x:UInt8}(h0:(x.toNat:Int)≠120)(Al:r0=((x.toNat:Int) == 111)):FV Tp 231 [(.p (.v (.int .u8 (x.toNat:Int))))] base (pB r0) []:=by
 subst Al;exact FV.fi func231 [bF,bF,bF] (Ay (bP h0) gn)
theorem bVw{x:UInt8}(h0:(97:Int)≤(x.toNat:Int))(Al:r0=(decide ((x.toNat:Int)≤122))):FV Tp 232 [(.p (.v (.int .u8 (x.toNat:Int))))] base (pB r0) []:=by
 subst Al;exact FV.fi func232 [bT,bT,bT] (Ay (mB h0) gn)
theorem bVx{x:UInt8}(h0:(x.toNat:Int)<97):FV Tp 232 [(.p (.v (.int .u8 (x.toNat:Int))))] base (pB false) []:=FV.fi func232 [bF,bF,bF] (Ay (eJ h0) gn)
def isr(x:UInt8):Bool:=decide ((x.toNat:Int)=120) || ((x.toNat:Int) == 111)
theorem bVy(x:UInt8){base:Nat}:FV Tp 231 [.p (.v (.int .u8 (x.toNat:Int)))] base (pB (isr x)) []:=by
 by_cases h:(x.toNat:Int)=120
 ·have e:isr x=true:=by simp only [isr,h,decide_true,Bool.true_or]
  rw [e];exact bVu h
 ·exact bVv h (by simp [isr,h])
def isl(x:UInt8):Bool:=decide ((97:Int)≤(x.toNat:Int)) && decide ((x.toNat:Int)≤122)
theorem bVz(x:UInt8){base:Nat}:FV Tp 232 [.p (.v (.int .u8 (x.toNat:Int)))] base (pB (isl x)) []:=by
 by_cases h:(97:Int)≤(x.toNat:Int)
 ·exact bVw h (by simp [isl,h])
 ·have e:isl x=false:=by simp only [isl,h,decide_false,Bool.false_and]
  rw [e];exact bVx (by omega)
theorem bMu{x:UInt8}(Al:r0=(!(isr x))):FMM Tp 239 [(.p (.v (.int .u8 (x.toNat:Int)))),(.ptr 0 0)] [some (.box 289 [(.fn 231 [] [])])] (pB r0) [some (.box 289 [(.fn 231 [] [])])]:=by
 subst Al;exact FMM.fi 1 gE func239 [.c (pB (isr x)) []] (gc (fk 1 (bVy x) rfl) gn)
theorem aSc(x:UInt8):FMM Tp 239 [.p (.v (.int .u8 (x.toNat:Int))),.ptr 0 0] [some (.box 289 [(.fn 231 [] [])])] (pB (!(isr x))) [some (.box 289 [(.fn 231 [] [])])]:=bMu rfl
def fU(l:List UInt8)(i:Nat):St:=⟨fr 19 [(0,(.p (.sl l.length (l.map dH)))),(1,(.fn 239 [] [(.ptr 0 0)])),(7,(pI (l.length:Int))),(8,(pI (i:Int)))],[some (.box 289 [(.fn 231 [] [])])]⟩
theorem bMv{l:List UInt8}(hl0:aF Tp 1 oX (fU l 0) (.exit 0) (fU l Aq)):FMM Tp 281 [(.p (.sl l.length (l.map dH))),(.fn 239 [] [(.ptr 0 0)])] [some (.box 289 [(.fn 231 [] [])])] (pI (-1)) [some (.box 289 [(.fn 231 [] [])])]:=FMM.fi 1 gE func281 [hl0.k 6 (gZ cb)] (gc hl0.code gn)
theorem bMw{l:List UInt8}(hl0:aF Tp 1 oX (fU l 0) .ret (cN (fU l Aq) [(4,(pI (Aq:Int)))])):FMM Tp 281 [(.p (.sl l.length (l.map dH))),(.fn 239 [] [(.ptr 0 0)])] [some (.box 289 [(.fn 231 [] [])])] (pI (Aq:Int)) [some (.box 289 [(.fn 231 [] [])])]:=FMM.fi 1 gE func281 [hl0.k 6 (gZ cb)] (gc hl0.code gn)
section
variable{l:List UInt8}{Ab:UInt8}(h0:(i:Int)<(l.length:Int))(h1:l[i]? = some Ab)
include h0 h1
theorem aOy(h2:(isr Ab)=false):aA Tp 1 oX (fU l i) .ret (cN (fU l i) [(4,(pI (i:Int)))]):=have k1:=mq [0] 1 (aSc Ab);aA.fi (gZ bq) [bT,.x (.v (.int .u8 (Ab.toNat:Int))),k1.o,bT] (gc (dB h2) (gc k1 (gc (atm dH h1) (gc (ixn dH h1) (g0 h0)))))
theorem aOz(h2:(isr Ab)=true)(h3:cn i)(Aj:i'=(i+1)):aA Tp 1 oX (fU l i) .normal (fU l i'):=by
 subst Aj;have k1:=mq [0] 1 (aSc Ab);exact aA.fi (gZ cb) [bT,.x (.v (.int .u8 (Ab.toNat:Int))),k1.o,bF] (gc h3 (gc (aU h2) (gc k1 (gc (atm dH h1) (gc (ixn dH h1) (g0 h0))))))
end
theorem aPa{l:List UInt8}(h0:(l.length:Int)≤(i:Int)):aA Tp 1 oX (fU l i) (.exit 0) (fU l i):=aA.fi (gZ cb) [bF] (gc (bL h0) gn)
theorem bMx(l:List UInt8)(hl:l.length≤100000):FMM Tp 281 [.p (.sl l.length (l.map dH)),(.fn 239 [] [(.ptr 0 0)])] [some (.box 289 [(.fn 231 [] [])])] (pI (nG (fun x => !(isr x)) l)) [some (.box 289 [(.fn 231 [] [])])]:=by
 rcases aF.find (P:=Tp) (k:=1) (b:=oX) (fun i=>fU l i) (fun i _=>cN (fU l i) [(4,.p (aB (i:Int)))]) (fU l l.length) .ret (.exit 0) (by simp) (by simp) (fun x => !(isr x)) l
  (fun i x hx hp=>aOz (by have:=bN hx;omega) hx (by simpa using hp) (aV (by have:=bN hx;omega)) rfl)
  (fun i x hx hp=>aOy (by have:=bN hx;omega) hx (by simpa using hp))
  (aPa (l:=l) (i:=l.length) (by omega)) with ⟨i,x,h1,h2,h3,h4⟩ | ⟨h1,h2,h3⟩
 ·rw [jC h2];exact bMw h4
 ·rw [jD h1];exact bMv h3
theorem bMy{l:List UInt8}(h0:l.length≤100000)(Al:r0=(decide ((nG (fun x => !(isr x)) l) ≥ 0))):FMM Tp 238 [(.p (.sl l.length (l.map dH))),(.fn 239 [] [(.ptr 0 0)])] [some (.box 289 [(.fn 231 [] [])])] (pB r0) [some (.box 289 [(.fn 231 [] [])])]:=by
 subst Al;have k1:=mq [0] 1 (bMx l h0);exact FMM.fi 1 gE func238 [k1.o] (gc k1 gn)
theorem bMz(l:List UInt8)(hl:l.length≤100000):FMM Tp 238 [.p (.sl l.length (l.map dH)),(.fn 239 [] [(.ptr 0 0)])] [some (.box 289 [(.fn 231 [] [])])] (pB (l.any (fun x => !(isr x)))) [some (.box 289 [(.fn 231 [] [])])]:=bMy hl (lC _ _).symm
theorem bNa{l:List UInt8}(h0:l.length≤100000)(Al:r0=(!(l.any (fun x => !(isr x))))):FV Tp 196 [(.p (.sl l.length (l.map dH))),(.fn 231 [] [])] base (pB r0) []:=by
 subst Al;have k1:=mq [0] 1 (bMz l h0);exact FV.fi func196 [k1.o] (gc k1 gn)
theorem bNb(l:List UInt8)(hl:l.length≤100000){base:Nat}:FV Tp 196 [.p (.sl l.length (l.map dH)),(.fn 231 [] [])] base (pB (l.all isr)) []:=bNa hl (by rw [List.all_eq_not_any_not])
theorem bNc{x:UInt8}(Al:r0=(!(isl x))):FMM Tp 239 [(.p (.v (.int .u8 (x.toNat:Int)))),(.ptr 0 0)] [some (.box 289 [(.fn 232 [] [])])] (pB r0) [some (.box 289 [(.fn 232 [] [])])]:=by
 subst Al;exact FMM.fi 1 gE func239 [.c (pB (isl x)) []] (gc (fk 1 (bVz x) rfl) gn)
theorem aSd(x:UInt8):FMM Tp 239 [.p (.v (.int .u8 (x.toNat:Int))),.ptr 0 0] [some (.box 289 [(.fn 232 [] [])])] (pB (!(isl x))) [some (.box 289 [(.fn 232 [] [])])]:=bNc rfl
def fV(l:List UInt8)(i:Nat):St:=⟨fr 19 [(0,(.p (.sl l.length (l.map dH)))),(1,(.fn 239 [] [(.ptr 0 0)])),(7,(pI (l.length:Int))),(8,(pI (i:Int)))],[some (.box 289 [(.fn 232 [] [])])]⟩
theorem bNd{l:List UInt8}(hl0:aF Tp 1 oX (fV l 0) (.exit 0) (fV l Aq)):FMM Tp 281 [(.p (.sl l.length (l.map dH))),(.fn 239 [] [(.ptr 0 0)])] [some (.box 289 [(.fn 232 [] [])])] (pI (-1)) [some (.box 289 [(.fn 232 [] [])])]:=FMM.fi 1 gE func281 [hl0.k 6 (gZ cb)] (gc hl0.code gn)
theorem bNe{l:List UInt8}(hl0:aF Tp 1 oX (fV l 0) .ret (cN (fV l Aq) [(4,(pI (Aq:Int)))])):FMM Tp 281 [(.p (.sl l.length (l.map dH))),(.fn 239 [] [(.ptr 0 0)])] [some (.box 289 [(.fn 232 [] [])])] (pI (Aq:Int)) [some (.box 289 [(.fn 232 [] [])])]:=FMM.fi 1 gE func281 [hl0.k 6 (gZ cb)] (gc hl0.code gn)
section
variable{l:List UInt8}{Ab:UInt8}(h0:(i:Int)<(l.length:Int))(h1:l[i]? = some Ab)
include h0 h1
theorem aPb(h2:(isl Ab)=false):aA Tp 1 oX (fV l i) .ret (cN (fV l i) [(4,(pI (i:Int)))]):=have k1:=mq [0] 1 (aSd Ab);aA.fi (gZ bq) [bT,.x (.v (.int .u8 (Ab.toNat:Int))),k1.o,bT] (gc (dB h2) (gc k1 (gc (atm dH h1) (gc (ixn dH h1) (g0 h0)))))
theorem aPc(h2:(isl Ab)=true)(h3:cn i)(Aj:i'=(i+1)):aA Tp 1 oX (fV l i) .normal (fV l i'):=by
 subst Aj;have k1:=mq [0] 1 (aSd Ab);exact aA.fi (gZ cb) [bT,.x (.v (.int .u8 (Ab.toNat:Int))),k1.o,bF] (gc h3 (gc (aU h2) (gc k1 (gc (atm dH h1) (gc (ixn dH h1) (g0 h0))))))
end
theorem aPd{l:List UInt8}(h0:(l.length:Int)≤(i:Int)):aA Tp 1 oX (fV l i) (.exit 0) (fV l i):=aA.fi (gZ cb) [bF] (gc (bL h0) gn)
theorem bNf(l:List UInt8)(hl:l.length≤100000):FMM Tp 281 [.p (.sl l.length (l.map dH)),(.fn 239 [] [(.ptr 0 0)])] [some (.box 289 [(.fn 232 [] [])])] (pI (nG (fun x => !(isl x)) l)) [some (.box 289 [(.fn 232 [] [])])]:=by
 rcases aF.find (P:=Tp) (k:=1) (b:=oX) (fun i=>fV l i) (fun i _=>cN (fV l i) [(4,.p (aB (i:Int)))]) (fV l l.length) .ret (.exit 0) (by simp) (by simp) (fun x => !(isl x)) l
  (fun i x hx hp=>aPc (by have:=bN hx;omega) hx (by simpa using hp) (aV (by have:=bN hx;omega)) rfl)
  (fun i x hx hp=>aPb (by have:=bN hx;omega) hx (by simpa using hp))
  (aPd (l:=l) (i:=l.length) (by omega)) with ⟨i,x,h1,h2,h3,h4⟩ | ⟨h1,h2,h3⟩
 ·rw [jC h2];exact bNe h4
 ·rw [jD h1];exact bNd h3
theorem bNg{l:List UInt8}(h0:l.length≤100000)(Al:r0=(decide ((nG (fun x => !(isl x)) l) ≥ 0))):FMM Tp 238 [(.p (.sl l.length (l.map dH))),(.fn 239 [] [(.ptr 0 0)])] [some (.box 289 [(.fn 232 [] [])])] (pB r0) [some (.box 289 [(.fn 232 [] [])])]:=by
 subst Al;have k1:=mq [0] 1 (bNf l h0);exact FMM.fi 1 gE func238 [k1.o] (gc k1 gn)
theorem bNh(l:List UInt8)(hl:l.length≤100000):FMM Tp 238 [.p (.sl l.length (l.map dH)),(.fn 239 [] [(.ptr 0 0)])] [some (.box 289 [(.fn 232 [] [])])] (pB (l.any (fun x => !(isl x)))) [some (.box 289 [(.fn 232 [] [])])]:=bNg hl (lC _ _).symm
theorem bNi{l:List UInt8}(h0:l.length≤100000)(Al:r0=(!(l.any (fun x => !(isl x))))):FV Tp 196 [(.p (.sl l.length (l.map dH))),(.fn 232 [] [])] base (pB r0) []:=by
 subst Al;have k1:=mq [0] 1 (bNh l h0);exact FV.fi func196 [k1.o] (gc k1 gn)
theorem bNj(l:List UInt8)(hl:l.length≤100000){base:Nat}:FV Tp 196 [.p (.sl l.length (l.map dH)),(.fn 232 [] [])] base (pB (l.all isl)) []:=bNi hl (by rw [List.all_eq_not_any_not])
theorem bWa{s:List UInt8}(h0:(within (s.length:Int) lo hi)=true)(h1:s.length≤1000000000)(h2:s.length≤100000)(Al:r0=(s.all isr)):FV Tp 230 [(.p (aD s)),(pI lo),(pI hi),(.fn 231 [] [])] base (pB r0) []:=by
 subst Al;have k1:=fk 0 (mL (s.length:Int) lo hi) rfl;exact FV.fi func230 [k1.o,bT,bT,bT,bT,.c (pB (s.all isr)) [],bT] (gc h0 (gc (fk 0 (bNb s h2) rfl) (A2 h0 (gc h1 (A2 h0 (gc k1 gn))))))
theorem bWb{s:List UInt8}(h0:(within (s.length:Int) lo hi)=false):FV Tp 230 [(.p (aD s)),(pI lo),(pI hi),(.fn 231 [] [])] base (pB false) []:=have k1:=fk 0 (mL (s.length:Int) lo hi) rfl;FV.fi func230 ([k1.o]++rF 5) (Cw h0 (gc k1 gn))
theorem bWc{s:List UInt8}(h0:(within (s.length:Int) lo hi)=true)(h1:s.length≤1000000000)(h2:s.length≤100000)(Al:r0=(s.all isl)):FV Tp 230 [(.p (aD s)),(pI lo),(pI hi),(.fn 232 [] [])] base (pB r0) []:=by
 subst Al;have k1:=fk 0 (mL (s.length:Int) lo hi) rfl;exact FV.fi func230 [k1.o,bT,bT,bT,bT,.c (pB (s.all isl)) [],bT] (gc h0 (gc (fk 0 (bNj s h2) rfl) (A2 h0 (gc h1 (A2 h0 (gc k1 gn))))))
theorem bWd{s:List UInt8}(h0:(within (s.length:Int) lo hi)=false):FV Tp 230 [(.p (aD s)),(pI lo),(pI hi),(.fn 232 [] [])] base (pB false) []:=have k1:=fk 0 (mL (s.length:Int) lo hi) rfl;FV.fi func230 ([k1.o]++rF 5) (Cw h0 (gc k1 gn))
def mH(s:List UInt8):Bool:=within (s.length:Int) 5 8 && s.all isr
def mI(s:List UInt8):Bool:=within (s.length:Int) 1 12 && s.all isl
theorem bWe(s:List UInt8)(lo hi:Int)(h:hi≤100000){base:Nat}:FV Tp 230 [.p (aD s),.p (aB lo),.p (aB hi),.fn 231 [] []] base (pB (within (s.length:Int) lo hi && s.all isr)) []:=by
 by_cases q:within (s.length:Int) lo hi=true
 ·have:=cK.1 q
  exact bWa q (by omega) (by omega) (by rw [q,aVr])
 ·have e:within (s.length:Int) lo hi=false:=by simpa using q
  rw [e,Bool.false_and];exact bWb e
theorem bWf(s:List UInt8)(lo hi:Int)(h:hi≤100000){base:Nat}:FV Tp 230 [.p (aD s),.p (aB lo),.p (aB hi),.fn 232 [] []] base (pB (within (s.length:Int) lo hi && s.all isl)) []:=by
 by_cases q:within (s.length:Int) lo hi=true
 ·have:=cK.1 q
  exact bWc q (by omega) (by omega) (by rw [q,aVr])
 ·have e:within (s.length:Int) lo hi=false:=by simpa using q
  rw [e,Bool.false_and];exact bWd e
theorem bWg{s:List UInt8}(h0:(8:Int)≤100000)(Al:r0=(within (s.length:Int) 5 8 && s.all isr)):FV Tp 191 [(.p (aD s))] base (pB r0) []:=by
 subst Al;have k1:=fk 0 (bWe s 5 8 h0) rfl;exact FV.fi func191 [k1.o] (gc k1 gn)
theorem bWh{s:List UInt8}(h0:(12:Int)≤100000)(Al:r0=(within (s.length:Int) 1 12 && s.all isl)):FV Tp 192 [(.p (aD s))] base (pB r0) []:=by
 subst Al;have k1:=fk 0 (bWf s 1 12 h0) rfl;exact FV.fi func192 [k1.o] (gc k1 gn)
theorem aGr(s:List UInt8){base:Nat}:FV Tp 191 [.p (aD s)] base (pB (mH s)) []:=bWg (by omega) rfl
theorem aGs(s:List UInt8){base:Nat}:FV Tp 192 [.p (aD s)] base (pB (mI s)) []:=bWh (by omega) rfl
theorem bWi{s:List UInt8}{r0:Int}(h0:0≤(999999:Int)∧(999999:Int)≤1000000000)(Al:r0=((bJ s 999999).1))(Dd:r1=((bJ s 999999).2)):FV Tp 188 [(.p (aD s))] base (.tup [(pI r0),(pI r1)]) []:=by
 subst Al Dd;have k1:=fk 0 (gD s 999999 h0) rfl;exact FV.fi func188 [k1.o] (gc k1 gn)
theorem bWj(s:List UInt8){base:Nat}:FV Tp 188 [.p (aD s)] base (.tup [.p (aB (bJ s 999999).1),.p (aB (bJ s 999999).2)]) []:=bWi (by omega) rfl rfl
theorem bWk{n:Int}:FV Tp 189 [(pI n)] base (.p (aD ((ptM n).1))) []:=have k1:=fk 0 (cCi n) rfl;FV.fi func189 [k1.o] (gc k1 gn)
theorem bWl(n:Int){base:Nat}:FV Tp 189 [.p (aB n)] base (.p (aD (ptM n).1)) []:=bWk
theorem bWm{s:List UInt8}{r0:Int}(Al:r0=((bJ s 999999).1))(Dd:r1=((bJ s 999999).2)):FV Tp 224 [(.p (aD s)),(.rp [(PV.fn 188 [] [])] 0)] base (.tup [(.p (.agg [(aB r0),(aD ([]:List UInt8))])),(pI r1)]) []:=by
 subst Al Dd;have k1:=fk 1 (bWj s) rfl;exact FV.fi func224 [.x (PV.fn 188 [] []),k1.o] (gc k1 (gr (PV.fn 188 [] []) gn))
theorem bWn{s:List UInt8}{r0:Int}(h0:s.length≤90000)(Al:r0=((paM s).1))(Dd:r1=((paM s).2)):FV Tp 224 [(.p (aD s)),(.rp [(PV.fn 39 [] [])] 0)] base (.tup [(.p (.agg [(aB r0),(aD ([]:List UInt8))])),(pI r1)]) []:=by
 subst Al Dd;have k1:=fk 1 (bNk s h0) rfl;exact FV.fi func224 [.x (PV.fn 39 [] []),k1.o] (gc k1 (gr (PV.fn 39 [] []) gn))
theorem bWo{z:List UInt8}(h0:inR a):FV Tp 225 [(.p (.agg [(aB a),(aD z)])),(.rp [(PV.fn 120 [] [])] 0)] base (.p (aD (Lib.itoa a))) []:=have k1:=fk 1 (dG a h0) rfl;FV.fi func225 [.x (PV.fn 120 [] []),k1.o] (gc k1 (gr (PV.fn 120 [] []) gn))
theorem bWp{z:List UInt8}:FV Tp 225 [(.p (.agg [(aB a),(aD z)])),(.rp [(PV.fn 189 [] [])] 0)] base (.p (aD ((ptM a).1))) []:=have k1:=fk 1 (bWl a) rfl;FV.fi func225 [.x (PV.fn 189 [] []),k1.o] (gc k1 (gr (PV.fn 189 [] []) gn))
theorem bGr{z:List UInt8}(h0:(within a 0 m)=false):FV Tp 226 [(.p (.agg [(aB a),(aD z)])),(.rp [(aB m)] 0)] base (pI 3) []:=have k1:=fk 1 (mL a 0 m) rfl;FV.fi func226 [.x (aB m),k1.o,bT] (gc (dB h0) (gc k1 (gr (aB m) gn)))
theorem bGs{z:List UInt8}(h0:(within a 0 m)=true)(h1:z≠([]:List UInt8)):FV Tp 226 [(.p (.agg [(aB a),(aD z)])),(.rp [(aB m)] 0)] base (pI 11) []:=have k1:=fk 1 (mL a 0 m) rfl;FV.fi func226 [.x (aB m),k1.o,bF,bT] (gc (dB (decide_eq_false h1)) (gc (aU h0) (gc k1 (gr (aB m) gn))))
theorem bGt{z:List UInt8}(h0:(within a 0 m)=true)(h1:z=([]:List UInt8)):FV Tp 226 [(.p (.agg [(aB a),(aD z)])),(.rp [(aB m)] 0)] base (pI 0) []:=have k1:=fk 1 (mL a 0 m) rfl;FV.fi func226 [.x (aB m),k1.o,bF,bF] (gc (aU (decide_eq_true h1)) (gc (aU h0) (gc k1 (gr (aB m) gn))))
theorem bWq{s:List UInt8}(h0:(mH s)=false):FV Tp 227 [(.p (aD s)),(.rp [(PV.fn 191 [] [])] 0)] base (.tup [(.p (.agg [(aB 0),(aD ([]:List UInt8))])),(pI 11)]) []:=FV.fi func227 [.x (PV.fn 191 [] []),.c (pB (mH s)) [],bT] (gc (dB h0) (gc (fk 1 (aGr s) rfl) (gr (PV.fn 191 [] []) gn)))
theorem bWr{s:List UInt8}(h0:(mH s)=true):FV Tp 227 [(.p (aD s)),(.rp [(PV.fn 191 [] [])] 0)] base (.tup [(.p (.agg [(aB 0),(aD s)])),(pI 0)]) []:=FV.fi func227 [.x (PV.fn 191 [] []),.c (pB (mH s)) [],bF] (gc (aU h0) (gc (fk 1 (aGr s) rfl) (gr (PV.fn 191 [] []) gn)))
theorem bWs{s:List UInt8}(h0:(mI s)=false):FV Tp 227 [(.p (aD s)),(.rp [(PV.fn 192 [] [])] 0)] base (.tup [(.p (.agg [(aB 0),(aD ([]:List UInt8))])),(pI 11)]) []:=FV.fi func227 [.x (PV.fn 192 [] []),.c (pB (mI s)) [],bT] (gc (dB h0) (gc (fk 1 (aGs s) rfl) (gr (PV.fn 192 [] []) gn)))
theorem bWt{s:List UInt8}(h0:(mI s)=true):FV Tp 227 [(.p (aD s)),(.rp [(PV.fn 192 [] [])] 0)] base (.tup [(.p (.agg [(aB 0),(aD s)])),(pI 0)]) []:=FV.fi func227 [.x (PV.fn 192 [] []),.c (pB (mI s)) [],bF] (gc (aU h0) (gc (fk 1 (aGs s) rfl) (gr (PV.fn 192 [] []) gn)))
theorem bWu{z:List UInt8}:FV Tp 228 [(.p (.agg [(aB a),(aD z)]))] base (.p (aD z)) []:=FV.fi func228 [] gn
theorem bWv{z:List UInt8}(h0:a≠0):FV Tp 229 [(.p (.agg [(aB a),(aD z)])),(.rp [(PV.fn 191 [] [])] 0)] base (pI 11) []:=FV.fi func229 (rT 6) (Hq (fJ h0) gn)
theorem bWw{z:List UInt8}(h0:a=0)(h1:(mH z)=false):FV Tp 229 [(.p (.agg [(aB a),(aD z)])),(.rp [(PV.fn 191 [] [])] 0)] base (pI 11) []:=FV.fi func229 [bF,.x (PV.fn 191 [] []),bF,bF,bF,.c (pB (mH z)) [],bF,bF,bT] (gc (dB h1) (A2 (bK h0) (gc (fk 1 (aGr z) rfl) (Ay (bK h0) (gr (PV.fn 191 [] []) (gc (bK h0) gn))))))
theorem bWx{z:List UInt8}(h0:a=0)(h1:(mH z)=true):FV Tp 229 [(.p (.agg [(aB a),(aD z)])),(.rp [(PV.fn 191 [] [])] 0)] base (pI 0) []:=FV.fi func229 [bF,.x (PV.fn 191 [] []),bF,bF,bF,.c (pB (mH z)) [],bF,bF,bF] (gc (aU h1) (A2 (bK h0) (gc (fk 1 (aGr z) rfl) (Ay (bK h0) (gr (PV.fn 191 [] []) (gc (bK h0) gn))))))
theorem bWy{z:List UInt8}(h0:a≠0):FV Tp 229 [(.p (.agg [(aB a),(aD z)])),(.rp [(PV.fn 192 [] [])] 0)] base (pI 11) []:=FV.fi func229 (rT 6) (Hq (fJ h0) gn)
theorem bWz{z:List UInt8}(h0:a=0)(h1:(mI z)=false):FV Tp 229 [(.p (.agg [(aB a),(aD z)])),(.rp [(PV.fn 192 [] [])] 0)] base (pI 11) []:=FV.fi func229 [bF,.x (PV.fn 192 [] []),bF,bF,bF,.c (pB (mI z)) [],bF,bF,bT] (gc (dB h1) (A2 (bK h0) (gc (fk 1 (aGs z) rfl) (Ay (bK h0) (gr (PV.fn 192 [] []) (gc (bK h0) gn))))))
theorem bXa{z:List UInt8}(h0:a=0)(h1:(mI z)=true):FV Tp 229 [(.p (.agg [(aB a),(aD z)])),(.rp [(PV.fn 192 [] [])] 0)] base (pI 0) []:=FV.fi func229 [bF,.x (PV.fn 192 [] []),bF,bF,bF,.c (pB (mI z)) [],bF,bF,bF] (gc (aU h1) (A2 (bK h0) (gc (fk 1 (aGs z) rfl) (Ay (bK h0) (gr (PV.fn 192 [] []) (gc (bK h0) gn))))))
abbrev Cel:=Int × List UInt8
def cE(c:Cel):List PV:=[aB c.1,aD c.2]
def rdM(j:Int)(s:List UInt8):Cel × Int:=if j=0 then (((bJ s 999999).1,[]),(bJ s 999999).2) else if j=1 then (((paM s).1,[]),(paM s).2) else if (if j=2 then mH s else mI s)=true then ((0,s),0) else ((0,[]),11)
def wrM(j:Int)(c:Cel):List UInt8:=if j=0 then Lib.itoa c.1 else if j=1 then (ptM c.1).1 else c.2
def ckM(j:Int)(c:Cel):Int:=if j=0∨j=1 then (if within c.1 0 (if j=0 then 999999 else 360000)=false then 3 else if c.2≠[] then 11 else 0) else if c.1≠0∨(if j=2 then mH c.2 else mI c.2)=false then 11 else 0
theorem bGu(s:List UInt8){base:Nat}:FV Tp 224 [.p (aD s),.rp [PV.fn 188 [] []] 0] base (.tup [.p (.agg [aB (rdM 0 s).1.1,aD (rdM 0 s).1.2]),.p (aB (rdM 0 s).2)]) []:=bWm rfl rfl
theorem bGv(s:List UInt8)(h:s.length≤90000){base:Nat}:FV Tp 224 [.p (aD s),.rp [PV.fn 39 [] []] 0] base (.tup [.p (.agg [aB (rdM 1 s).1.1,aD (rdM 1 s).1.2]),.p (aB (rdM 1 s).2)]) []:=bWn h rfl rfl
theorem bGw(s:List UInt8){base:Nat}:FV Tp 227 [.p (aD s),.rp [PV.fn 191 [] []] 0] base (.tup [.p (.agg [aB (rdM 2 s).1.1,aD (rdM 2 s).1.2]),.p (aB (rdM 2 s).2)]) []:=by
 by_cases h:mH s=true
 ·have e:rdM 2 s=((0,s),0):=by simp [rdM,h]
  rw [e];exact bWr h
 ·have e:rdM 2 s=((0,[]),11):=by simp [rdM,h]
  rw [e];exact bWq (by simpa using h)
theorem bGx(s:List UInt8){base:Nat}:FV Tp 227 [.p (aD s),.rp [PV.fn 192 [] []] 0] base (.tup [.p (.agg [aB (rdM 3 s).1.1,aD (rdM 3 s).1.2]),.p (aB (rdM 3 s).2)]) []:=by
 by_cases h:mI s=true
 ·have e:rdM 3 s=((0,s),0):=by simp [rdM,h]
  rw [e];exact bWt h
 ·have e:rdM 3 s=((0,[]),11):=by simp [rdM,h]
  rw [e];exact bWs (by simpa using h)
theorem bXb(a:Int)(z:List UInt8)(h:inR a){base:Nat}:FV Tp 225 [.p (.agg [aB a,aD z]),.rp [PV.fn 120 [] []] 0] base (.p (aD (wrM 0 (a,z)))) []:=bWo h
theorem bXc(a:Int)(z:List UInt8){base:Nat}:FV Tp 225 [.p (.agg [aB a,aD z]),.rp [PV.fn 189 [] []] 0] base (.p (aD (wrM 1 (a,z)))) []:=bWp
theorem bGy(a:Int)(z:List UInt8){base:Nat}:FV Tp 228 [.p (.agg [aB a,aD z])] base (.p (aD (wrM 2 (a,z)))) []:=bWu
theorem bGz(a:Int)(z:List UInt8){base:Nat}:FV Tp 226 [.p (.agg [aB a,aD z]),.rp [aB 999999] 0] base (pI (ckM 0 (a,z))) []:=by
 by_cases h:within a 0 999999=true
 ·by_cases h2:z=[]
  ·have e:ckM 0 (a,z)=0:=by simp [ckM,h,h2]
   rw [e];exact bGt h h2
  ·have e:ckM 0 (a,z)=11:=by simp [ckM,h,h2]
   rw [e];exact bGs h h2
 ·have e:ckM 0 (a,z)=3:=by simp [ckM,h]
  rw [e];exact bGr (by simpa using h)
theorem bHa(a:Int)(z:List UInt8){base:Nat}:FV Tp 226 [.p (.agg [aB a,aD z]),.rp [aB 360000] 0] base (pI (ckM 1 (a,z))) []:=by
 by_cases h:within a 0 360000=true
 ·by_cases h2:z=[]
  ·have e:ckM 1 (a,z)=0:=by simp [ckM,h,h2]
   rw [e];exact bGt h h2
  ·have e:ckM 1 (a,z)=11:=by simp [ckM,h,h2]
   rw [e];exact bGs h h2
 ·have e:ckM 1 (a,z)=3:=by simp [ckM,h]
  rw [e];exact bGr (by simpa using h)
theorem bHb(a:Int)(z:List UInt8){base:Nat}:FV Tp 229 [.p (.agg [aB a,aD z]),.rp [PV.fn 191 [] []] 0] base (pI (ckM 2 (a,z))) []:=by
 by_cases h:a=0
 ·by_cases h2:mH z=true
  ·have e:ckM 2 (a,z)=0:=by simp [ckM,h,h2]
   rw [e];exact bWx h h2
  ·have e:ckM 2 (a,z)=11:=by simp [ckM,h2]
   rw [e];exact bWw h (by simpa using h2)
 ·have e:ckM 2 (a,z)=11:=by simp [ckM,h]
  rw [e];exact bWv h
theorem bHc(a:Int)(z:List UInt8){base:Nat}:FV Tp 229 [.p (.agg [aB a,aD z]),.rp [PV.fn 192 [] []] 0] base (pI (ckM 3 (a,z))) []:=by
 by_cases h:a=0
 ·by_cases h2:mI z=true
  ·have e:ckM 3 (a,z)=0:=by simp [ckM,h,h2]
   rw [e];exact bXa h h2
  ·have e:ckM 3 (a,z)=11:=by simp [ckM,h2]
   rw [e];exact bWz h (by simpa using h2)
 ·have e:ckM 3 (a,z)=11:=by simp [ckM,h]
  rw [e];exact bWy h
end
section
section
variable {α:Type} {E:α→List PV} {k:Nat}
theorem rJ(hE:∀ a,(E a).length=k)(l:List α):((l.map E).flatten).length=l.length*k:=by
 induction l with
 | nil=>simp
 | cons a l ih=>rw [eZ,vU,B4,hE,ih,eY,Nat.succ_mul];omega
theorem wF(hE:∀ a,(E a).length=k){l:List α}{i:Nat}{e:α}(h:l[i]? = some e):∃ a b,(l.map E).flatten=a++(E e++b)∧a.length=i*k:=by
 obtain ⟨hi,rfl⟩:=Cf.1 h;refine ⟨((l.take i).map E).flatten,((l.drop (i+1)).map E).flatten,?_,?_⟩
 ·have:l=l.take i++(l[i]::l.drop (i+1)):=by rw [← bLi hi,bEx]
  have e2:=congrArg (fun l=>(l.map E).flatten) this
  simp only [pT,eZ,bLj,vU] at e2
  exact e2
 ·rw [rJ hE,vV];congr 1;omega
theorem aM{l:List α}{i f:Nat}(hE:∀ a,(E a).length=k){e:α}{x:PV}(h:l[i]? = some e)(hx:(E e)[f]? = some x):((l.map E).flatten)[i*k+f]? = some x:=by
 obtain ⟨a,b,e1,e2⟩:=wF hE h;have hf:=(Cf.1 hx).1;rw [e1,← e2,aGi (by omega),Nat.add_sub_cancel_left,aCd hf]
 exact hx
theorem cG{l:List α}{i:Nat}(hE:∀ a,(E a).length=k){e:α}(h:l[i]? = some e):i*k+k≤((l.map E).flatten).length:=by
 obtain ⟨a,b,e1,e2⟩:=wF hE h;rw [e1,B4,B4,hE,e2];omega
theorem bG{l:List α}{i:Nat}(hE:∀ a,(E a).length=k){e:α}(h:l[i]? = some e){x:PV}(hx:PV.agg (E e)=x):some (.agg ((((l.map E).flatten).drop (i*k)).take k):PV)=some x:=by
 obtain ⟨a,b,e1,e2⟩:=wF hE h;rw [e1,← e2,List.drop_left,List.take_left' (hE e),hx]
theorem bC{l:List α}{i:Int}(hE:∀ a,(E a).length=k)(hk:0<k)(h0:0≤i){e:α}(h:l[i.toNat]? = some e):0≤i∧i<(l.length:Int)∧i.toNat*k<((l.map E).flatten).length:=by
 have hi:=(Cf.1 h).1;refine ⟨h0,by omega,?_⟩
 rw [rJ hE];exact Nat.mul_lt_mul_of_pos_right hi hk
end
end
section
variable {r0:Bool}{k:Int}{i i' Aq base:Nat}

noncomputable abbrev oW:Code:=sub (cd Tryz.f199) [1,0,1,0,0]
def aN(r:List Cel):PV := .sl r.length ((r.map cE).flatten)
abbrev cD(R:List (List Cel)):PV := .sl R.length (R.map aN)
theorem bVp{r:List Cel}(Al:r0=(decide ((r.length:Int) > 0))):FV Tp 183 [(.p (.sl r.length ((r.map cE).flatten)))] base (pB r0) []:=by
 subst Al;exact FV.fi func183 [] gn
def Dv(r:List Cel):Bool:=decide ((r.length:Int) > 0)
theorem bVq(r:List Cel){base:Nat}:FV Tp 183 [.p (.sl r.length ((r.map cE).flatten))] base (pB (Dv r)) []:=bVp rfl
theorem bMg{x:List Cel}(Al:r0=(!(Dv x))):FMM Tp 221 [(.p (.sl x.length ((x.map cE).flatten))),(.ptr 0 0)] [some (.box 229 [(.fn 183 [] [])])] (pB r0) [some (.box 229 [(.fn 183 [] [])])]:=by
 subst Al;exact FMM.fi 1 gE func221 [.c (pB (Dv x)) []] (gc (fk 1 (bVq x) rfl) gn)
theorem aSa(x:List Cel)  : FMM Tp 221 [.p (.sl x.length ((x.map cE).flatten)),.ptr 0 0] [some (.box 229 [(.fn 183 [] [])])] (pB (!(Dv x))) [some (.box 229 [(.fn 183 [] [])])]:=bMg rfl
def fR(l:List (List Cel))(i:Nat):St:=⟨fr 19 [(0,(.p (.sl l.length (l.map aN)))),(1,(.fn 221 [] [(.ptr 0 0)])),(7,(pI (l.length:Int))),(8,(pI (i:Int)))],[some (.box 229 [(.fn 183 [] [])])]⟩
theorem bMh{l:List (List Cel)}(hl0:aF Tp 1 oW (fR l 0) (.exit 0) (fR l Aq)):FMM Tp 199 [(.p (.sl l.length (l.map aN))),(.fn 221 [] [(.ptr 0 0)])] [some (.box 229 [(.fn 183 [] [])])] (pI (-1)) [some (.box 229 [(.fn 183 [] [])])]:=FMM.fi 1 gE func199 [hl0.k 6 (gZ cb)] (gc hl0.code gn)
theorem bMi{l:List (List Cel)}(hl0:aF Tp 1 oW (fR l 0) .ret (cN (fR l Aq) [(4,(pI (Aq:Int)))])):FMM Tp 199 [(.p (.sl l.length (l.map aN))),(.fn 221 [] [(.ptr 0 0)])] [some (.box 229 [(.fn 183 [] [])])] (pI (Aq:Int)) [some (.box 229 [(.fn 183 [] [])])]:=FMM.fi 1 gE func199 [hl0.k 6 (gZ cb)] (gc hl0.code gn)
section
variable{l:List (List Cel)}{Ab:List Cel}(h0:(i:Int)<(l.length:Int))(h1:l[i]? = some Ab)
include h0 h1
theorem aOs(h2:(Dv Ab)=false):aA Tp 1 oW (fR l i) .ret (cN (fR l i) [(4,(pI (i:Int)))]):=have k1:=mq [0] 1 (aSa Ab);aA.fi (gZ bq) [bT,.x (.sl Ab.length ((Ab.map cE).flatten)),k1.o,bT] (gc (dB h2) (gc k1 (gc (atm aN h1) (gc (ixn aN h1) (g0 h0)))))
theorem aOt(h2:(Dv Ab)=true)(h3:cn i)(Aj:i'=(i+1)):aA Tp 1 oW (fR l i) .normal (fR l i'):=by
 subst Aj;have k1:=mq [0] 1 (aSa Ab);exact aA.fi (gZ cb) [bT,.x (.sl Ab.length ((Ab.map cE).flatten)),k1.o,bF] (gc h3 (gc (aU h2) (gc k1 (gc (atm aN h1) (gc (ixn aN h1) (g0 h0))))))
end
theorem aOu{l:List (List Cel)}(h0:(l.length:Int)≤(i:Int)):aA Tp 1 oW (fR l i) (.exit 0) (fR l i):=aA.fi (gZ cb) [bF] (gc (bL h0) gn)
theorem bMj(l:List (List Cel))(hl:l.length≤100000):FMM Tp 199 [.p (cD l),(.fn 221 [] [(.ptr 0 0)])] [some (.box 229 [(.fn 183 [] [])])] (pI (nG (fun x => !(Dv x)) l)) [some (.box 229 [(.fn 183 [] [])])]:=by
 rcases aF.find (P:=Tp) (k:=1) (b:=oW) (fun i=>fR l i) (fun i _=>cN (fR l i) [(4,.p (aB (i:Int)))]) (fR l l.length) .ret (.exit 0) (by simp) (by simp) (fun x => !(Dv x)) l
  (fun i x hx hp=>aOt (by have:=bN hx;omega) hx (by simpa using hp) (aV (by have:=bN hx;omega)) rfl)
  (fun i x hx hp=>aOs (by have:=bN hx;omega) hx (by simpa using hp))
  (aOu (l:=l) (i:=l.length) (by omega)) with ⟨i,x,h1,h2,h3,h4⟩ | ⟨h1,h2,h3⟩
 ·rw [jC h2];exact bMi h4
 ·rw [jD h1];exact bMh h3
theorem bMk{l:List (List Cel)}(h0:l.length≤100000)(Al:r0=(decide ((nG (fun x => !(Dv x)) l) ≥ 0))):FMM Tp 135 [(.p (.sl l.length (l.map aN))),(.fn 221 [] [(.ptr 0 0)])] [some (.box 229 [(.fn 183 [] [])])] (pB r0) [some (.box 229 [(.fn 183 [] [])])]:=by
 subst Al;have k1:=mq [0] 1 (bMj l h0);exact FMM.fi 1 gE func135 [k1.o] (gc k1 gn)
theorem bMl(l:List (List Cel))(hl:l.length≤100000):FMM Tp 135 [.p (cD l),(.fn 221 [] [(.ptr 0 0)])] [some (.box 229 [(.fn 183 [] [])])] (pB (l.any (fun x => !(Dv x)))) [some (.box 229 [(.fn 183 [] [])])]:=bMk hl (lC _ _).symm
theorem bMm{l:List (List Cel)}(h0:l.length≤100000)(Al:r0=(!(l.any (fun x => !(Dv x))))):FV Tp 182 [(.p (.sl l.length (l.map aN))),(.fn 183 [] [])] base (pB r0) []:=by
 subst Al;have k1:=mq [0] 1 (bMl l h0);exact FV.fi func182 [k1.o] (gc k1 gn)
theorem yC(l:List (List Cel))(hl:l.length≤100000){base:Nat}:FV Tp 182 [.p (cD l),(.fn 183 [] [])] base (pB (l.all (Dv))) []:=bMm hl (by rw [List.all_eq_not_any_not])
theorem bVr{r:List Cel}(h0:(r.length:Int)=0):FV Tp 206 [(.p (.sl r.length ((r.map cE).flatten))),(.rp [(bM (aJ k))] 0)] base (pB true) []:=FV.fi func206 (rT 6) (Hq (dC h0) gn)
theorem bVs{r:List Cel}(h0:(r.length:Int)≠0)(Al:r0=((r.length:Int) == ((aJ k).length:Int))):FV Tp 206 [(.p (.sl r.length ((r.map cE).flatten))),(.rp [(bM (aJ k))] 0)] base (pB r0) []:=by
 subst Al;exact FV.fi func206 [bF,bF,bF,.x (bM (aJ k)),bF,bF,bF] (Ay (bP h0) (gr (bM (aJ k)) (Ay (bP h0) gn)))
def fD(k:Int)(r:List Cel):Bool:=decide ((r.length:Int)=0) || ((r.length:Int) == ((aJ k).length:Int))
theorem bVt(r:List Cel)(k:Int){base:Nat}:FV Tp 206 [.p (.sl r.length ((r.map cE).flatten)),.rp [bM (aJ k)] 0] base (pB (fD k r)) []:=by
 by_cases h:(r.length:Int)=0
 ·have e:fD k r=true:=by simp only [fD,h,decide_true,Bool.true_or]
  rw [e];exact bVr h
 ·exact bVs h (by simp only [fD,h,decide_false,Bool.false_or])
theorem bMn{x:List Cel}(Al:r0=(!(fD k x))):FMM Tp 221 [(.p (.sl x.length ((x.map cE).flatten))),(.ptr 0 0)] [some (.box 229 [(.fn 206 [] [(.rp [(bM (aJ k))] 0)])])] (pB r0) [some (.box 229 [(.fn 206 [] [(.rp [(bM (aJ k))] 0)])])]:=by
 subst Al;exact FMM.fi 1 gE func221 [.c (pB (fD k x)) []] (gc (fk 1 (bVt x k) rfl) gn)
theorem aSb(x:List Cel)(k:Int):FMM Tp 221 [.p (.sl x.length ((x.map cE).flatten)),.ptr 0 0] [some (.box 229 [(.fn 206 [] [(.rp [(bM (aJ k))] 0)])])] (pB (!(fD k x))) [some (.box 229 [(.fn 206 [] [(.rp [(bM (aJ k))] 0)])])]:=bMn rfl
def fT(l:List (List Cel))(k:Int)(i:Nat):St:=⟨fr 19 [(0,(.p (.sl l.length (l.map aN)))),(1,(.fn 221 [] [(.ptr 0 0)])),(7,(pI (l.length:Int))),(8,(pI (i:Int)))],[some (.box 229 [(.fn 206 [] [(.rp [(bM (aJ k))] 0)])])]⟩
theorem bMo{l:List (List Cel)}(hl0:aF Tp 1 oW (fT l k 0) (.exit 0) (fT l k Aq)):FMM Tp 199 [(.p (.sl l.length (l.map aN))),(.fn 221 [] [(.ptr 0 0)])] [some (.box 229 [(.fn 206 [] [(.rp [(bM (aJ k))] 0)])])] (pI (-1)) [some (.box 229 [(.fn 206 [] [(.rp [(bM (aJ k))] 0)])])]:=FMM.fi 1 gE func199 [hl0.k 6 (gZ cb)] (gc hl0.code gn)
theorem bMp{l:List (List Cel)}(hl0:aF Tp 1 oW (fT l k 0) .ret (cN (fT l k Aq) [(4,(pI (Aq:Int)))])):FMM Tp 199 [(.p (.sl l.length (l.map aN))),(.fn 221 [] [(.ptr 0 0)])] [some (.box 229 [(.fn 206 [] [(.rp [(bM (aJ k))] 0)])])] (pI (Aq:Int)) [some (.box 229 [(.fn 206 [] [(.rp [(bM (aJ k))] 0)])])]:=FMM.fi 1 gE func199 [hl0.k 6 (gZ cb)] (gc hl0.code gn)
section
variable{l:List (List Cel)}{Ab:List Cel}(h0:(i:Int)<(l.length:Int))(h1:l[i]? = some Ab)
include h0 h1
theorem aOv(h2:(fD k Ab)=false):aA Tp 1 oW (fT l k i) .ret (cN (fT l k i) [(4,(pI (i:Int)))]):=have k1:=mq [0] 1 (aSb Ab k);aA.fi (gZ bq) [bT,.x (.sl Ab.length ((Ab.map cE).flatten)),k1.o,bT] (gc (dB h2) (gc k1 (gc (atm aN h1) (gc (ixn aN h1) (g0 h0)))))
theorem aOw(h2:(fD k Ab)=true)(h3:cn i)(Aj:i'=(i+1)):aA Tp 1 oW (fT l k i) .normal (fT l k i'):=by
 subst Aj;have k1:=mq [0] 1 (aSb Ab k);exact aA.fi (gZ cb) [bT,.x (.sl Ab.length ((Ab.map cE).flatten)),k1.o,bF] (gc h3 (gc (aU h2) (gc k1 (gc (atm aN h1) (gc (ixn aN h1) (g0 h0))))))
end
theorem aOx{l:List (List Cel)}(h0:(l.length:Int)≤(i:Int)):aA Tp 1 oW (fT l k i) (.exit 0) (fT l k i):=aA.fi (gZ cb) [bF] (gc (bL h0) gn)
theorem bMq(l:List (List Cel))(k:Int)(hl:l.length≤100000):FMM Tp 199 [.p (cD l),(.fn 221 [] [(.ptr 0 0)])] [some (.box 229 [(.fn 206 [] [(.rp [(bM (aJ k))] 0)])])] (pI (nG (fun x => !(fD k x)) l)) [some (.box 229 [(.fn 206 [] [(.rp [(bM (aJ k))] 0)])])]:=by
 rcases aF.find (P:=Tp) (k:=1) (b:=oW) (fun i=>fT l k i) (fun i _=>cN (fT l k i) [(4,.p (aB (i:Int)))]) (fT l k l.length) .ret (.exit 0) (by simp) (by simp) (fun x => !(fD k x)) l
  (fun i x hx hp=>aOw (by have:=bN hx;omega) hx (by simpa using hp) (aV (by have:=bN hx;omega)) rfl)
  (fun i x hx hp=>aOv (by have:=bN hx;omega) hx (by simpa using hp))
  (aOx (l:=l) (i:=l.length) (by omega)) with ⟨i,x,h1,h2,h3,h4⟩ | ⟨h1,h2,h3⟩
 ·rw [jC h2];exact bMp h4
 ·rw [jD h1];exact bMo h3
theorem bMr{l:List (List Cel)}(h0:l.length≤100000)(Al:r0=(decide ((nG (fun x => !(fD k x)) l) ≥ 0))):FMM Tp 135 [(.p (.sl l.length (l.map aN))),(.fn 221 [] [(.ptr 0 0)])] [some (.box 229 [(.fn 206 [] [(.rp [(bM (aJ k))] 0)])])] (pB r0) [some (.box 229 [(.fn 206 [] [(.rp [(bM (aJ k))] 0)])])]:=by
 subst Al;have k1:=mq [0] 1 (bMq l k h0);exact FMM.fi 1 gE func135 [k1.o] (gc k1 gn)
theorem bMs(l:List (List Cel))(k:Int)(hl:l.length≤100000):FMM Tp 135 [.p (cD l),(.fn 221 [] [(.ptr 0 0)])] [some (.box 229 [(.fn 206 [] [(.rp [(bM (aJ k))] 0)])])] (pB (l.any (fun x => !(fD k x)))) [some (.box 229 [(.fn 206 [] [(.rp [(bM (aJ k))] 0)])])]:=bMr hl (lC _ _).symm
theorem bMt{l:List (List Cel)}(h0:l.length≤100000)(Al:r0=(!(l.any (fun x => !(fD k x))))):FV Tp 182 [(.p (.sl l.length (l.map aN))),(.fn 206 [] [(.rp [(bM (aJ k))] 0)])] base (pB r0) []:=by
 subst Al;have k1:=mq [0] 1 (bMs l k h0);exact FV.fi func182 [k1.o] (gc k1 gn)
theorem aGq(l:List (List Cel))(k:Int)(hl:l.length≤100000){base:Nat}:FV Tp 182 [.p (cD l),(.fn 206 [] [(.rp [(bM (aJ k))] 0)])] base (pB (l.all (fD k))) []:=bMt hl (by rw [List.all_eq_not_any_not])
end
section
variable {k ea eb Bc Co Dm:Int}{i j q j' q' qa qb Hf base Gi Ip B8 Ey:Nat}

noncomputable abbrev lY:Code:=sub (cd Tryz.f145) [1,1,1,1,0,1,0,0,1,1,0,0,1,1,0,0,1,1,0,0,1,1,0,0]
noncomputable abbrev rZ:Code:=sub (cd Tryz.f145) [1,1,1,1,0,1,0,0,1,1,0,0,1,1,0,0]
noncomputable abbrev aAr:Code:=sub (cd Tryz.f145) [1,1,1,1,0,1,0,0]
theorem bRa:0≤(0:Int)∧(0:Int)<2:=by first | decide | simp
theorem bRb:(decide ((0:Int)<2))=true:=by first | decide | simp
theorem bRc:0≤(1:Int)∧(1:Int)<2:=by first | decide | simp
theorem bRd:(decide ((1:Int)<2))=true:=by first | decide | simp
theorem bRe:0≤(0:Int)∧(0:Int)<4:=by first | decide | simp
theorem bRf:0≤(1:Int)∧(1:Int)<4:=by first | decide | simp
theorem bRg:0≤(2:Int)∧(2:Int)<4:=by first | decide | simp
theorem bRh:0≤(3:Int)∧(3:Int)<4:=by first | decide | simp
abbrev a8(k:Int):Mem:=[some (.box 65 [(.p (bM (aJ k)))]),some (.box 214 [(.fn 224 [] [(.rp [(PV.fn 188 [] [])] 0)]),(.fn 225 [] [(.rp [(PV.fn 120 [] [])] 0)]),(.fn 226 [] [(.rp [(aB 999999)] 0)]),(.fn 224 [] [(.rp [(PV.fn 39 [] [])] 0)]),(.fn 225 [] [(.rp [(PV.fn 189 [] [])] 0)]),(.fn 226 [] [(.rp [(aB 360000)] 0)]),(.fn 227 [] [(.rp [(PV.fn 191 [] [])] 0)]),(.fn 228 [] []),(.fn 229 [] [(.rp [(PV.fn 191 [] [])] 0)]),(.fn 227 [] [(.rp [(PV.fn 192 [] [])] 0)]),(.fn 228 [] []),(.fn 229 [] [(.rp [(PV.fn 192 [] [])] 0)])])]
def iO(k:Int)(R:List (List Cel))(q:Nat):St:=⟨fr 56 [(1,(.p (.sl R.length (R.map aN)))),(5,(.ptr 0 0)),(7,(.ptr 1 0)),(24,(.p (.agg [(aB 3),(aB 11)]))),(25,(pI (q:Int)))],(a8 k)⟩
section
variable{R:List (List Cel)}(h0:R.length≤100000)
include h0
theorem bVn(h1:(R.all (fD k))=false):FV Tp 145 [(pI k),(.p (.sl R.length (R.map aN)))] base (pI 2) []:=have k1:=fk 0 (fE k) rfl;FV.fi func145 [k1.o,.c (pB (R.all (fD k))) [],bT] (gc (dB h1) (gt (FC Tp 182 [(.p (.sl R.length (R.map aN))),(.fn 206 [] [(.ptr 0 0)])] [(0,(.box 65 [(.p (bM (aJ k)))]))] 1 (pB (R.all (fD k))) []) (fv (aGq R k h0)) (gc k1 gn)))
theorem bVo(h1:(R.all (fD k))=true)(Bp:aF Tp 0 aAr (iO k R 0) (.exit 0) (iO k R Hf)):FV Tp 145 [(pI k),(.p (.sl R.length (R.map aN)))] base (pI 0) []:=have k1:=fk 0 (fE k) rfl;have k2:=fk 1 (eQ) rfl;FV.fi func145 [k1.o,.c (pB (R.all (fD k))) [],bF,k2.o,Bp.k 4 (gI b5 [0,1])] (gc Bp.code (gc k2 (gc (aU h1) (gt (FC Tp 182 [(.p (.sl R.length (R.map aN))),(.fn 206 [] [(.ptr 0 0)])] [(0,(.box 65 [(.p (bM (aJ k)))]))] 1 (pB (R.all (fD k))) []) (fv (aGq R k h0)) (gc k1 gn)))))
theorem bGq{r0:Int}(h1:(R.all (fD k))=true)(Bp:aF Tp 0 aAr (iO k R 0) .ret (cN (iO k R Hf) [(4,(pI (if Hf=0 then 3 else 11)))]))(Al:r0=(if Hf=0 then 3 else 11)):FV Tp 145 [(pI k),(.p (.sl R.length (R.map aN)))] base (pI r0) []:=by
 subst Al;have k1:=fk 0 (fE k) rfl;have k2:=fk 1 (eQ) rfl;exact FV.fi func145 [k1.o,.c (pB (R.all (fD k))) [],bF,k2.o,Bp.k 4 (gI b5 [0,1])] (gc Bp.code (gc k2 (gc (aU h1) (gt (FC Tp 182 [(.p (.sl R.length (R.map aN))),(.fn 206 [] [(.ptr 0 0)])] [(0,(.box 65 [(.p (bM (aJ k)))]))] 1 (pB (R.all (fD k))) []) (fv (aGq R k h0)) (gc k1 gn)))))
end
def eI(k:Int)(R:List (List Cel))(i qa:Nat)(ea:Int):St:=⟨fr 56 [(1,(.p (.sl R.length (R.map aN)))),(5,(.ptr 0 0)),(7,(.ptr 1 0)),(9,(pI ea)),(24,(.p (.agg [(aB 3),(aB 11)]))),(25,(pI (qa:Int))),(28,(.p (.sl R.length (R.map aN)))),(29,(pI (R.length:Int))),(30,(pI (i:Int)))],(a8 k)⟩
theorem aEe{R:List (List Cel)}(Ar:q=0)(An:aF Tp 0 rZ (eI k R 0 0 3) (.exit 2) (eI k R Gi B8 Co))(h2:inR (((B8+1):Nat):Int))(D7:q'=(B8+1)):aA Tp 0 aAr (iO k R q) .normal (iO k R q'):=by
 subst Ar;subst D7;exact aA.fi (gI b5 [0,1]) [bT,An.k 7 (gI aq [0,1])] (gc h2 (gc An.code (gc bRa (gc bRb gn))))
theorem aYt{R:List (List Cel)}(Ar:q=0)(An:aF Tp 0 rZ (eI k R 0 0 3) .ret (cN (eI k R Gi B8 Co) [(4,(pI Co))])):aA Tp 0 aAr (iO k R q) .ret (cN (iO k R B8) [(4,(pI Co))]):=by
 subst Ar;exact aA.fi (gI [0,1,2,2,6,1,8,16,26,30] [0,1]) [bT,An.k 7 (gI aq [0,1])] (gc An.code (gc bRa (gc bRb gn)))
theorem aYu{R:List (List Cel)}(Ar:q=1)(An:aF Tp 0 rZ (eI k R 0 1 11) (.exit 2) (eI k R Gi B8 Co))(h2:inR (((B8+1):Nat):Int))(D7:q'=(B8+1)):aA Tp 0 aAr (iO k R q) .normal (iO k R q'):=by
 subst Ar;subst D7;exact aA.fi (gI b5 [0,1]) [bT,An.k 7 (gI aq [0,1])] (gc h2 (gc An.code (gc bRc (gc bRd gn))))
theorem aYv{R:List (List Cel)}(Ar:q=1)(An:aF Tp 0 rZ (eI k R 0 1 11) .ret (cN (eI k R Gi B8 Co) [(4,(pI Co))])):aA Tp 0 aAr (iO k R q) .ret (cN (iO k R B8) [(4,(pI Co))]):=by
 subst Ar;exact aA.fi (gI [0,1,2,2,6,1,8,16,26,30] [0,1]) [bT,An.k 7 (gI aq [0,1])] (gc An.code (gc bRc (gc bRd gn)))
theorem aYw{R:List (List Cel)}(Ar:q=2)(D7:q'=2):aA Tp 0 aAr (iO k R q) (.exit 0) (iO k R q'):=by
 subst Ar;subst D7;exact aA.fi (gI b5 [0,1]) [bF] (gt ((decide ((2:Int)<2))=false) (by first | decide | simp) gn)
def dJ(k:Int)(R:List (List Cel))(i:Nat)(Ac:List Cel)(j qb:Nat)(eb:Int):St:=⟨fr 56 [(1,(.p (.sl R.length (R.map aN)))),(5,(.ptr 0 0)),(7,(.ptr 1 0)),(9,(pI eb)),(11,(.p (.sl Ac.length ((Ac.map cE).flatten)))),(24,(.p (.agg [(aB 3),(aB 11)]))),(25,(pI (qb:Int))),(28,(.p (.sl R.length (R.map aN)))),(29,(pI (R.length:Int))),(30,(pI (i:Int))),(31,(pB (decide ((i:Int)<(R.length:Int))))),(32,(.rp (R.map aN) (i*1))),(33,(.p (.sl Ac.length ((Ac.map cE).flatten)))),(34,(.p (.sl Ac.length ((Ac.map cE).flatten)))),(35,(pI (Ac.length:Int))),(36,(pI (j:Int)))],(a8 k)⟩
section
variable{R:List (List Cel)}{Ac:List Cel}(h0:(i:Int)<(R.length:Int))(h1:R[i]? = some Ac)
include h0 h1
theorem aYx{i':Nat}(Bp:aF Tp 0 lY (dJ k R i Ac 0 qa ea) (.exit 4) (dJ k R i Ac Ip Ey Dm))(h3:cn i)(Aj:i'=(i+1)):aA Tp 0 rZ (eI k R i qa ea) .normal (eI k R i' Ey Dm):=by
 subst Aj;exact aA.fi (gI aq [0,1]) [bT,.x (.sl Ac.length ((Ac.map cE).flatten)),Bp.k 3 (gI aj [0,1])] (gc h3 (gc Bp.code (gc (atm aN h1) (gc (ixn aN h1) (g0 h0)))))
theorem aYy(Bp:aF Tp 0 lY (dJ k R i Ac 0 qa ea) .ret (cN (dJ k R i Ac Ip Ey Dm) [(4,(pI Dm))])):aA Tp 0 rZ (eI k R i qa ea) .ret (cN (eI k R i Ey Dm) [(4,(pI Dm))]):=aA.fi (gI [0,1,2,2,6,1,8,1,10,14,26,2,31,24] [0,1]) [bT,.x (.sl Ac.length ((Ac.map cE).flatten)),Bp.k 3 (gI aj [0,1])] (gc Bp.code (gc (atm aN h1) (gc (ixn aN h1) (g0 h0))))
end
theorem aYz{R:List (List Cel)}(h0:(R.length:Int)≤(i:Int)):aA Tp 0 rZ (eI k R i qa ea) (.exit 2) (eI k R i qa ea):=aA.fi (gI aq [0,1]) [bF] (gc (bL h0) gn)
section
variable{Ac:List Cel}{A9:List UInt8}(h0:(j:Int)<(Ac.length:Int))(h1:Ac[j]? = some (Bc,A9))
include h0 h1
theorem aZa{R:List (List Cel)}(h2:(aJ k)[j]? = some 0)(h3:(ckM 0 (Bc,A9))=eb):aA Tp 0 lY (dJ k R i Ac j qb eb) .ret (cN (dJ k R i Ac j qb eb) [(4,(pI eb))]):=have k1:=fk 3 (bGz Bc A9) rfl;aA.fi (gI al [0,1]) [bT,.x (.agg [(aB Bc),(aD A9)]),.x (aB 0),k1.o,bT] (gc (dC h3) (gc k1 (gc bRe (gc (atm aB h2) (gc (ixn aB h2) (gc (bG (E:=cE) (i:=j) (k:=2) (fun _=>rfl) h1 rfl) (gc (cG (E:=cE) (i:=j) (k:=2) (fun _=>rfl) h1) (gc (bC (E:=cE) (k:=2) (i:=(j:Int)) (fun _=>rfl) (by decide) (Bu _) h1) (g0 h0)))))))))
theorem aZb{R:List (List Cel)}(h2:(aJ k)[j]? = some 0)(h3:(ckM 0 (Bc,A9))≠eb)(h4:cn j)(Bw:j'=(j+1)):aA Tp 0 lY (dJ k R i Ac j qb eb) .normal (dJ k R i Ac j' qb eb):=by
 subst Bw;have k1:=fk 3 (bGz Bc A9) rfl;exact aA.fi (gI aj [0,1]) [bT,.x (.agg [(aB Bc),(aD A9)]),.x (aB 0),k1.o,bF] (gc h4 (gc (bP h3) (gc k1 (gc bRe (gc (atm aB h2) (gc (ixn aB h2) (gc (bG (E:=cE) (i:=j) (k:=2) (fun _=>rfl) h1 rfl) (gc (cG (E:=cE) (i:=j) (k:=2) (fun _=>rfl) h1) (gc (bC (E:=cE) (k:=2) (i:=(j:Int)) (fun _=>rfl) (by decide) (Bu _) h1) (g0 h0))))))))))
theorem aZc{R:List (List Cel)}(h2:(aJ k)[j]? = some 1)(h3:(ckM 1 (Bc,A9))=eb):aA Tp 0 lY (dJ k R i Ac j qb eb) .ret (cN (dJ k R i Ac j qb eb) [(4,(pI eb))]):=have k1:=fk 3 (bHa Bc A9) rfl;aA.fi (gI al [0,1]) [bT,.x (.agg [(aB Bc),(aD A9)]),.x (aB 1),k1.o,bT] (gc (dC h3) (gc k1 (gc bRf (gc (atm aB h2) (gc (ixn aB h2) (gc (bG (E:=cE) (i:=j) (k:=2) (fun _=>rfl) h1 rfl) (gc (cG (E:=cE) (i:=j) (k:=2) (fun _=>rfl) h1) (gc (bC (E:=cE) (k:=2) (i:=(j:Int)) (fun _=>rfl) (by decide) (Bu _) h1) (g0 h0)))))))))
theorem aZd{R:List (List Cel)}(h2:(aJ k)[j]? = some 1)(h3:(ckM 1 (Bc,A9))≠eb)(h4:cn j)(Bw:j'=(j+1)):aA Tp 0 lY (dJ k R i Ac j qb eb) .normal (dJ k R i Ac j' qb eb):=by
 subst Bw;have k1:=fk 3 (bHa Bc A9) rfl;exact aA.fi (gI aj [0,1]) [bT,.x (.agg [(aB Bc),(aD A9)]),.x (aB 1),k1.o,bF] (gc h4 (gc (bP h3) (gc k1 (gc bRf (gc (atm aB h2) (gc (ixn aB h2) (gc (bG (E:=cE) (i:=j) (k:=2) (fun _=>rfl) h1 rfl) (gc (cG (E:=cE) (i:=j) (k:=2) (fun _=>rfl) h1) (gc (bC (E:=cE) (k:=2) (i:=(j:Int)) (fun _=>rfl) (by decide) (Bu _) h1) (g0 h0))))))))))
theorem aZe{R:List (List Cel)}(h2:(aJ k)[j]? = some 2)(h3:(ckM 2 (Bc,A9))=eb):aA Tp 0 lY (dJ k R i Ac j qb eb) .ret (cN (dJ k R i Ac j qb eb) [(4,(pI eb))]):=have k1:=fk 3 (bHb Bc A9) rfl;aA.fi (gI al [0,1]) [bT,.x (.agg [(aB Bc),(aD A9)]),.x (aB 2),k1.o,bT] (gc (dC h3) (gc k1 (gc bRg (gc (atm aB h2) (gc (ixn aB h2) (gc (bG (E:=cE) (i:=j) (k:=2) (fun _=>rfl) h1 rfl) (gc (cG (E:=cE) (i:=j) (k:=2) (fun _=>rfl) h1) (gc (bC (E:=cE) (k:=2) (i:=(j:Int)) (fun _=>rfl) (by decide) (Bu _) h1) (g0 h0)))))))))
theorem aZf{R:List (List Cel)}(h2:(aJ k)[j]? = some 2)(h3:(ckM 2 (Bc,A9))≠eb)(h4:cn j)(Bw:j'=(j+1)):aA Tp 0 lY (dJ k R i Ac j qb eb) .normal (dJ k R i Ac j' qb eb):=by
 subst Bw;have k1:=fk 3 (bHb Bc A9) rfl;exact aA.fi (gI aj [0,1]) [bT,.x (.agg [(aB Bc),(aD A9)]),.x (aB 2),k1.o,bF] (gc h4 (gc (bP h3) (gc k1 (gc bRg (gc (atm aB h2) (gc (ixn aB h2) (gc (bG (E:=cE) (i:=j) (k:=2) (fun _=>rfl) h1 rfl) (gc (cG (E:=cE) (i:=j) (k:=2) (fun _=>rfl) h1) (gc (bC (E:=cE) (k:=2) (i:=(j:Int)) (fun _=>rfl) (by decide) (Bu _) h1) (g0 h0))))))))))
theorem aZg{R:List (List Cel)}(h2:(aJ k)[j]? = some 3)(h3:(ckM 3 (Bc,A9))=eb):aA Tp 0 lY (dJ k R i Ac j qb eb) .ret (cN (dJ k R i Ac j qb eb) [(4,(pI eb))]):=have k1:=fk 3 (bHc Bc A9) rfl;aA.fi (gI al [0,1]) [bT,.x (.agg [(aB Bc),(aD A9)]),.x (aB 3),k1.o,bT] (gc (dC h3) (gc k1 (gc bRh (gc (atm aB h2) (gc (ixn aB h2) (gc (bG (E:=cE) (i:=j) (k:=2) (fun _=>rfl) h1 rfl) (gc (cG (E:=cE) (i:=j) (k:=2) (fun _=>rfl) h1) (gc (bC (E:=cE) (k:=2) (i:=(j:Int)) (fun _=>rfl) (by decide) (Bu _) h1) (g0 h0)))))))))
theorem aZh{R:List (List Cel)}(h2:(aJ k)[j]? = some 3)(h3:(ckM 3 (Bc,A9))≠eb)(h4:cn j)(Bw:j'=(j+1)):aA Tp 0 lY (dJ k R i Ac j qb eb) .normal (dJ k R i Ac j' qb eb):=by
 subst Bw;have k1:=fk 3 (bHc Bc A9) rfl;exact aA.fi (gI aj [0,1]) [bT,.x (.agg [(aB Bc),(aD A9)]),.x (aB 3),k1.o,bF] (gc h4 (gc (bP h3) (gc k1 (gc bRh (gc (atm aB h2) (gc (ixn aB h2) (gc (bG (E:=cE) (i:=j) (k:=2) (fun _=>rfl) h1 rfl) (gc (cG (E:=cE) (i:=j) (k:=2) (fun _=>rfl) h1) (gc (bC (E:=cE) (k:=2) (i:=(j:Int)) (fun _=>rfl) (by decide) (Bu _) h1) (g0 h0))))))))))
end
theorem aZi{R:List (List Cel)}{Ac:List Cel}(h0:(Ac.length:Int)≤(j:Int)):aA Tp 0 lY (dJ k R i Ac j qb eb) (.exit 4) (dJ k R i Ac j qb eb):=aA.fi (gI aj [0,1]) [bF] (gc (bL h0) gn)
def aKj(k:Int)(x:List Cel):List Int:=List.zipWith ckM (aJ k) x
def aAs(k e:Int)(x:List Cel):Bool:=(aKj k x).any (fun c=>c == e)
def lF(k:Int)(R:List (List Cel)):Int:=if R.all (fD k)=false then 2 else if R.any (aAs k 3)=true then 3 else if R.any (aAs k 11)=true then 11 else 0
theorem iP{k t:Int}{j:Nat}(h:(aJ k)[j]? = some t):t=0∨t=1∨t=2∨t=3:=by
 have:=Cj h;unfold aJ at this
 split at this
 ·simp at this;omega
 ·split at this
  ·simp at this;omega
  ·split at this
   ·simp at this;omega
   ·split at this <;> (simp at this;omega)
theorem aGo{k:Int}{x:List Cel}{j:Nat}{c:Int}(h:(aKj k x)[j]? = some c):∃ t a z,(aJ k)[j]? = some t∧x[j]? = some (a,z)∧c=ckM t (a,z):=by
 unfold aKj at h
 rw [List.getElem?_zipWith] at h
 cases h1:(aJ k)[j]? with
 | none=>rw [h1] at h;simp at h
 | some t =>
  cases h2:x[j]? with
  | none=>rw [h1,h2] at h;simp at h
  | some c2 =>
   rw [h1,h2] at h
   exact ⟨t,c2.1,c2.2,rfl,rfl,by simpa using h.symm⟩
theorem bMf{k:Int}{x:List Cel}(h:fD k x=true):(aKj k x).length=x.length∧x.length≤4:=by
 have hc:(aJ k).length≤4:=by unfold aJ;(repeat' split) <;> simp
 unfold aKj;rw [List.length_zipWith];unfold fD at h
 rw [aCf] at h
 rcases h with h | h
 ·have:=of_decide_eq_true h
  omega
 ·have:=eq_of_beq h
  omega
theorem Km{k:Int}{R:List (List Cel)}{i:Nat}{x:List Cel}(qb:Nat)(eb:Int)(hf:fD k x=true) :
  (aAs k eb x=true∧∃ j,aF Tp 0 lY (dJ k R i x 0 qb eb) .ret (cN (dJ k R i x j qb eb) [(4,(pI eb))]))∨(aAs k eb x=false∧aF Tp 0 lY (dJ k R i x 0 qb eb) (.exit 4) (dJ k R i x x.length qb eb)):=by
 obtain ⟨hl,h4⟩:=bMf hf
 rcases aF.find (P:=Tp) (k:=0) (b:=lY) (fun j=>dJ k R i x j qb eb) (fun j _=>cN (dJ k R i x j qb eb) [(4,(pI eb))]) (dJ k R i x x.length qb eb) .ret (.exit 4) (by simp) (by simp) (fun c=>c == eb) (aKj k x)
  (fun j c hx hp=>by
   obtain ⟨t,a,z,h1,h2,rfl⟩:=aGo hx;have hj:=bN h2;have hp:ckM t (a,z)≠eb:=by simpa using hp
   rcases iP h1 with rfl | rfl | rfl | rfl
   ·exact aZb (by omega) h2 h1 hp (aV (by omega)) rfl
   ·exact aZd (by omega) h2 h1 hp (aV (by omega)) rfl
   ·exact aZf (by omega) h2 h1 hp (aV (by omega)) rfl
   ·exact aZh (by omega) h2 h1 hp (aV (by omega)) rfl)
  (fun j c hx hp=>by
   obtain ⟨t,a,z,h1,h2,rfl⟩:=aGo hx;have hj:=bN h2;have hp:ckM t (a,z)=eb:=by simpa using hp
   rcases iP h1 with rfl | rfl | rfl | rfl
   ·exact aZa (by omega) h2 h1 hp
   ·exact aZc (by omega) h2 h1 hp
   ·exact aZe (by omega) h2 h1 hp
   ·exact aZg (by omega) h2 h1 hp)
  (by rw [hl];exact aZi (by omega)) with ⟨j,c,h1,h2,h3,h5⟩ | ⟨h1,h2,h3⟩
 ·exact .inl ⟨List.any_eq_true.2 ⟨c,Cj h1,h3⟩,j,h5⟩
 ·exact .inr ⟨h2,h3⟩
theorem Kn{k:Int}{R:List (List Cel)}(hR:R.length≤100000)(qa:Nat)(ea:Int)(hf:R.all (fD k)=true) :
  (R.any (aAs k ea)=true∧∃ i,aF Tp 0 rZ (eI k R 0 qa ea) .ret (cN (eI k R i qa ea) [(4,(pI ea))]))∨(R.any (aAs k ea)=false∧aF Tp 0 rZ (eI k R 0 qa ea) (.exit 2) (eI k R R.length qa ea)):=by
 rw [hZ] at hf
 rcases aF.find (P:=Tp) (k:=0) (b:=rZ) (fun i=>eI k R i qa ea) (fun i _=>cN (eI k R i qa ea) [(4,(pI ea))]) (eI k R R.length qa ea) .ret (.exit 2) (by simp) (by simp) (aAs k ea) R
  (fun i x hx hp=>by
   have hi:=bN hx
   rcases Km (R:=R) (i:=i) qa ea (hf x (Cj hx)) with ⟨q,_⟩ | ⟨_,L⟩
   ·rw [hp] at q;cases q
   ·exact aYx (by omega) hx L (aV (by omega)) rfl)
  (fun i x hx hp=>by
   have hi:=bN hx
   rcases Km (R:=R) (i:=i) qa ea (hf x (Cj hx)) with ⟨_,j,L⟩ | ⟨q,_⟩
   ·exact aYy (by omega) hx L
   ·rw [hp] at q;cases q)
  (aYz (by omega)) with ⟨i,x,h1,h2,h3,h5⟩ | ⟨h1,h2,h3⟩
 ·exact .inl ⟨List.any_eq_true.2 ⟨x,Cj h1,h3⟩,i,h5⟩
 ·exact .inr ⟨h2,h3⟩
theorem aGp(k:Int)(R:List (List Cel))(hR:R.length≤100000){base:Nat}:FV Tp 145 [.p (aB k),.p (cD R)] base (pI (lF k R)) []:=by
 unfold lF;cases hf:R.all (fD k)
 ·rw [if_pos rfl];exact bVn hR hf
 ·rw [if_neg (by simp)]
  rcases Kn hR 0 3 hf with ⟨a,i,L⟩ | ⟨a,L⟩
  ·rw [if_pos a]
   exact bGq (Hf:=0) hR hf (.exit (aYt rfl L) (by simp)) rfl
  ·rw [if_neg (by rw [a];simp)]
   rcases Kn hR 1 11 hf with ⟨a2,i,L2⟩ | ⟨a2,L2⟩
   ·rw [if_pos a2]
    exact bGq (Hf:=1) hR hf (.step (aEe rfl L (aV (by omega)) rfl) (.exit (aYv rfl L2) (by simp))) rfl
   ·rw [if_neg (by rw [a2];simp)]
    exact bVo (Hf:=2) hR hf (.step (aEe rfl L (aV (by omega)) rfl) (.step (aYu rfl L2 (aV (by omega)) rfl) (.exit (aYw rfl rfl) (by simp))))
end
section
variable {k x y a0 a1 a2 b0 b1 b2 r0 Bg:Int}{i i' Aq base:Nat}

noncomputable abbrev uR:Code:=sub (cd Tryz.f178) [1,0,1,0,0]
noncomputable abbrev aAq:Code:=sub (cd Tryz.f105) [1,1,1,0,1,0,0]
theorem aKg:0≤(0:Int)∧(0:Int)<3:=by first | decide | simp
theorem aKh:0≤(1:Int)∧(1:Int)<3:=by first | decide | simp
theorem aKi:0≤(2:Int)∧(2:Int)<3:=by first | decide | simp
theorem bQt:(decide ((3:Int)<3))=false:=by first | decide | simp
theorem bQu:(decide ((0:Int) ≥ 3))=false:=by first | decide | simp
theorem bQv:(decide ((0:Int)<3))=true:=by first | decide | simp
theorem bQw:(decide ((1:Int) ≥ 3))=false:=by first | decide | simp
theorem bQx:(decide ((1:Int)<3))=true:=by first | decide | simp
theorem bQy:(decide ((2:Int) ≥ 3))=false:=by first | decide | simp
theorem bQz:(decide ((2:Int)<3))=true:=by first | decide | simp
def iN(k:Int)(r:List Cel)(i:Nat)(a0 a1 a2:Int):St:=⟨fr 27 [(1,(.p (.sl r.length ((r.map cE).flatten)))),(4,(.ptr 0 0)),(7,(.ptr 1 0)),(14,(pI (aO k))),(15,(pI (i:Int)))],[some (.box 186 [(pI 0),(pI 0),(pI 0)]),some (.box 186 [(pI a0),(pI a1),(pI a2)])]⟩
theorem aOp{r:List Cel}{a0'1 a1'2 a2'3:Int}(hl0:aF Tp 0 aAq (iN k r 0 0 0 0) (.exit 0) (iN k r Aq a0'1 a1'2 a2'3)):FV Tp 105 [(pI k),(.p (.sl r.length ((r.map cE).flatten)))] base (.p (.agg [(aB a0'1),(aB a1'2),(aB a2'3)])) []:=have k1:=fk 1 (fE k) rfl;FV.fi func105 [k1.o,hl0.k 6 (gI b7 [0,1])] (gc hl0.code (gc k1 gn))
theorem wA{r:List Cel}{Bi:List UInt8}(Ar:i=0)(h1:(0:Int)<(aO k))(h2:r[0]? = some (Bg,Bi))(Aj:i'=1):aA Tp 0 aAq (iN k r i a0 a1 a2) .normal (iN k r i' Bg a1 a2):=by
 subst Ar;subst Aj;exact aA.fi (gI b7 [0,1]) [bT,.x (aB Bg)] (gt (inR 1) (by show _∧_;omega) (gc aKg (gt (((r.map cE).flatten)[0]? = some (aB Bg)) (aM (E:=cE) (i:=0) (f:=0) (k:=2) (fun _=>rfl) h2 rfl) (gc (bC (E:=cE) (k:=2) (i:=(0:Int)) (fun _=>rfl) (by decide) (by first | decide | simp) h2) (gc (cP h1) gn)))))
theorem aEc{r:List Cel}{Bi:List UInt8}(Ar:i=1)(h1:(1:Int)<(aO k))(h2:r[1]? = some (Bg,Bi))(Aj:i'=2):aA Tp 0 aAq (iN k r i a0 a1 a2) .normal (iN k r i' a0 Bg a2):=by
 subst Ar;subst Aj;exact aA.fi (gI b7 [0,1]) [bT,.x (aB Bg)] (gt (inR 2) (by show _∧_;omega) (gc aKh (gt (((r.map cE).flatten)[2]? = some (aB Bg)) (aM (E:=cE) (i:=1) (f:=0) (k:=2) (fun _=>rfl) h2 rfl) (gc (bC (E:=cE) (k:=2) (i:=(1:Int)) (fun _=>rfl) (by decide) (by first | decide | simp) h2) (gc (cP h1) gn)))))
theorem aYk{r:List Cel}(Ar:i=1)(h1:(aO k)≤1)(Aj:i'=1):aA Tp 0 aAq (iN k r i a0 a1 a2) (.exit 0) (iN k r i' a0 a1 a2):=by
 subst Ar;subst Aj;exact aA.fi (gI b7 [0,1]) [bF] (gc (bL h1) gn)
theorem aYl{r:List Cel}{Bi:List UInt8}(Ar:i=2)(h1:(2:Int)<(aO k))(h2:r[2]? = some (Bg,Bi))(Aj:i'=3):aA Tp 0 aAq (iN k r i a0 a1 a2) .normal (iN k r i' a0 a1 Bg):=by
 subst Ar;subst Aj;exact aA.fi (gI b7 [0,1]) [bT,.x (aB Bg)] (gt (inR 3) (by show _∧_;omega) (gc aKi (gt (((r.map cE).flatten)[4]? = some (aB Bg)) (aM (E:=cE) (i:=2) (f:=0) (k:=2) (fun _=>rfl) h2 rfl) (gc (bC (E:=cE) (k:=2) (i:=(2:Int)) (fun _=>rfl) (by decide) (by first | decide | simp) h2) (gc (cP h1) gn)))))
theorem aYm{r:List Cel}(Ar:i=2)(h1:(aO k)≤2)(Aj:i'=2):aA Tp 0 aAq (iN k r i a0 a1 a2) (.exit 0) (iN k r i' a0 a1 a2):=by
 subst Ar;subst Aj;exact aA.fi (gI b7 [0,1]) [bF] (gc (bL h1) gn)
theorem aYn{r:List Cel}(Ar:i=3)(h1:(aO k)≤3)(Aj:i'=3):aA Tp 0 aAq (iN k r i a0 a1 a2) (.exit 0) (iN k r i' a0 a1 a2):=by
 subst Ar;subst Aj;exact aA.fi (gI b7 [0,1]) [bF] (gc (bL h1) gn)
def aK(k:Int)(r:List Cel)(j:Nat):Int:=if (j:Int)<aO k then ((r[j]?).getD (0,[])).1 else 0
theorem wB{r:List Cel}{j:Nat}(h:j<r.length):r[j]? = some (((r[j]?).getD (0,[])).1,((r[j]?).getD (0,[])).2):=by
 rw [B3 h];rfl
theorem eH(k:Int)(r:List Cel)(h:aO k≤(r.length:Int)){base:Nat}:FV Tp 105 [.p (aB k),.p (.sl r.length ((r.map cE).flatten))] base (.p (.agg [aB (aK k r 0),aB (aK k r 1),aB (aK k r 2)])) []:=by
 have hk:aO k=1∨aO k=2∨aO k=3:=by unfold aO;split <;> (try split) <;> simp
 rcases hk with e | e | e
 ·have a0:aK k r 0=((r[0]?).getD (0,[])).1:=if_pos (by omega)
  have a1:aK k r 1=0:=if_neg (by omega)
  have a2:aK k r 2=0:=if_neg (by omega)
  rw [a0,a1,a2];exact aOp (.step (wA rfl (by omega) (wB (by omega)) rfl) (.exit (aYk rfl (by omega) rfl) (by simp)))
 ·have a0:aK k r 0=((r[0]?).getD (0,[])).1:=if_pos (by omega)
  have a1:aK k r 1=((r[1]?).getD (0,[])).1:=if_pos (by omega)
  have a2:aK k r 2=0:=if_neg (by omega)
  rw [a0,a1,a2];exact aOp (.step (wA rfl (by omega) (wB (by omega)) rfl) (.step (aEc rfl (by omega) (wB (by omega)) rfl) (.exit (aYm rfl (by omega) rfl) (by simp))))
 ·have a0:aK k r 0=((r[0]?).getD (0,[])).1:=if_pos (by omega)
  have a1:aK k r 1=((r[1]?).getD (0,[])).1:=if_pos (by omega)
  have a2:aK k r 2=((r[2]?).getD (0,[])).1:=if_pos (by omega)
  rw [a0,a1,a2];exact aOp (.step (wA rfl (by omega) (wB (by omega)) rfl) (.step (aEc rfl (by omega) (wB (by omega)) rfl) (.step (aYl rfl (by omega) (wB (by omega)) rfl) (.exit (aYn rfl (by omega) rfl) (by simp)))))
theorem aOq{r0:Bool}(Al:r0=(x != x)):FV Tp 215 [(pI x)] base (pB r0) []:=by
 subst Al;exact FV.fi func215 [] gn
theorem wC(x:Int){base:Nat}:FV Tp 215 [.p (aB x)] base (pB false) []:=by
 first | exact aOq | exact aOq rfl | exact aOq (by simp)
theorem bVh(h0:x<y):FV Tp 163 [(pI x),(pI y)] base (pI (-1)) []:=FV.fi func163 [.c (pB false) [],.c (pB false) [],bF,bF,bT] (gc (cP h0) (gf (gf (gc (fk 0 (wC y) rfl) (gc (fk 0 (wC x) rfl) gn)))))
theorem bVi(h0:y≤x)(h1:y<x):FV Tp 163 [(pI x),(pI y)] base (pI 1) []:=FV.fi func163 [.c (pB false) [],.c (pB false) [],bF,bF,bF,bT] (gc (cP h1) (gc (bL h0) (gf (gf (gc (fk 0 (wC y) rfl) (gc (fk 0 (wC x) rfl) gn))))))
theorem bVj(h0:y≤x)(h1:x≤y):FV Tp 163 [(pI x),(pI y)] base (pI 0) []:=FV.fi func163 [.c (pB false) [],.c (pB false) [],bF,bF,bF,bF] (gc (bL h1) (gc (bL h0) (gf (gf (gc (fk 0 (wC y) rfl) (gc (fk 0 (wC x) rfl) gn))))))
def jJ(x y:Int):Int:=if x<y then -1 else if y<x then 1 else 0
theorem wD(x y:Int){base:Nat}:FV Tp 163 [.p (aB x),.p (aB y)] base (pI (jJ x y)) []:=by
 unfold jJ
 by_cases h:x<y
 ·rw [if_pos h];exact bVh h
 ·rw [if_neg h]
  by_cases h2:y<x
  ·rw [if_pos h2];exact bVi (by omega) h2
  ·rw [if_neg h2];exact bVj (by omega) (by omega)
def n3(a b c:Int)(i:Nat):Int:=if i=0 then a else if i=1 then b else c
def fC(a0 a1 a2 b0 b1 b2:Int)(i:Nat):St:=⟨fr 36 [(0,(.arr 0 0 3)),(1,(.arr 1 0 3)),(9,(.arr 0 0 3)),(10,(pI 3)),(11,(pI (i:Int)))],[some (.box 186 [(pI a0),(pI a1),(pI a2)]),some (.box 186 [(pI b0),(pI b1),(pI b2)])]⟩
theorem bVk(hl0:aF Tp 2 uR (fC a0 a1 a2 b0 b1 b2 0) (.exit 0) (fC a0 a1 a2 b0 b1 b2 Aq)):FMM Tp 178 [(.arr 0 0 3),(.arr 1 0 3)] [some (.box 186 [(pI a0),(pI a1),(pI a2)]),some (.box 186 [(pI b0),(pI b1),(pI b2)])] (pI 0) [some (.box 186 [(pI a0),(pI a1),(pI a2)]),some (.box 186 [(pI b0),(pI b1),(pI b2)])]:=FMM.fi 2 gE func178 [hl0.k 6 (gZ c7),bF] (gc bQt (gc hl0.code gn))
theorem aOr(hl0:aF Tp 2 uR (fC a0 a1 a2 b0 b1 b2 0) .ret (cN (fC a0 a1 a2 b0 b1 b2 Aq) [(4,(pI (jJ (n3 a0 a1 a2 Aq) (n3 b0 b1 b2 Aq))))]))(Al:r0=(jJ (n3 a0 a1 a2 Aq) (n3 b0 b1 b2 Aq))):FMM Tp 178 [(.arr 0 0 3),(.arr 1 0 3)] [some (.box 186 [(pI a0),(pI a1),(pI a2)]),some (.box 186 [(pI b0),(pI b1),(pI b2)])] (pI r0) [some (.box 186 [(pI a0),(pI a1),(pI a2)]),some (.box 186 [(pI b0),(pI b1),(pI b2)])]:=by
 subst Al;exact FMM.fi 2 gE func178 [hl0.k 6 (gZ c7)] (gc hl0.code gn)
theorem aYo(Ar:i=0)(h1:(jJ a0 b0)≠0)(Aj:i'=0):aA Tp 2 uR (fC a0 a1 a2 b0 b1 b2 i) .ret (cN (fC a0 a1 a2 b0 b1 b2 i') [(4,(pI (jJ a0 b0)))]):=by
 subst Ar;subst Aj;have k1:=fk 2 (wD a0 b0) rfl;exact aA.fi (gZ [2,2,5,4,12,19]) [bT,bF,k1.o,bT] (gc (fJ h1) (gc k1 (gc aKg (gc bQu (gc aKg (gc bQv gn))))))
theorem wE(Ar:i=0)(h1:(jJ a0 b0)=0)(Aj:i'=1):aA Tp 2 uR (fC a0 a1 a2 b0 b1 b2 i) .normal (fC a0 a1 a2 b0 b1 b2 i'):=by
 subst Ar;subst Aj;have k1:=fk 2 (wD a0 b0) rfl;exact aA.fi (gZ c7) [bT,bF,k1.o,bF] (gt (inR 1) (by show _∧_;omega) (gc (bK h1) (gc k1 (gc aKg (gc bQu (gc aKg (gc bQv gn)))))))
theorem aYp(Ar:i=1)(h1:(jJ a1 b1)≠0)(Aj:i'=1):aA Tp 2 uR (fC a0 a1 a2 b0 b1 b2 i) .ret (cN (fC a0 a1 a2 b0 b1 b2 i') [(4,(pI (jJ a1 b1)))]):=by
 subst Ar;subst Aj;have k1:=fk 2 (wD a1 b1) rfl;exact aA.fi (gZ [2,2,5,4,12,19]) [bT,bF,k1.o,bT] (gc (fJ h1) (gc k1 (gc aKh (gc bQw (gc aKh (gc bQx gn))))))
theorem aEd(Ar:i=1)(h1:(jJ a1 b1)=0)(Aj:i'=2):aA Tp 2 uR (fC a0 a1 a2 b0 b1 b2 i) .normal (fC a0 a1 a2 b0 b1 b2 i'):=by
 subst Ar;subst Aj;have k1:=fk 2 (wD a1 b1) rfl;exact aA.fi (gZ c7) [bT,bF,k1.o,bF] (gt (inR 2) (by show _∧_;omega) (gc (bK h1) (gc k1 (gc aKh (gc bQw (gc aKh (gc bQx gn)))))))
theorem aYq(Ar:i=2)(h1:(jJ a2 b2)≠0)(Aj:i'=2):aA Tp 2 uR (fC a0 a1 a2 b0 b1 b2 i) .ret (cN (fC a0 a1 a2 b0 b1 b2 i') [(4,(pI (jJ a2 b2)))]):=by
 subst Ar;subst Aj;have k1:=fk 2 (wD a2 b2) rfl;exact aA.fi (gZ [2,2,5,4,12,19]) [bT,bF,k1.o,bT] (gc (fJ h1) (gc k1 (gc aKi (gc bQy (gc aKi (gc bQz gn))))))
theorem aYr(Ar:i=2)(h1:(jJ a2 b2)=0)(Aj:i'=3):aA Tp 2 uR (fC a0 a1 a2 b0 b1 b2 i) .normal (fC a0 a1 a2 b0 b1 b2 i'):=by
 subst Ar;subst Aj;have k1:=fk 2 (wD a2 b2) rfl;exact aA.fi (gZ c7) [bT,bF,k1.o,bF] (gt (inR 3) (by show _∧_;omega) (gc (bK h1) (gc k1 (gc aKi (gc bQy (gc aKi (gc bQz gn)))))))
theorem aYs(Ar:i=3)(Aj:i'=3):aA Tp 2 uR (fC a0 a1 a2 b0 b1 b2 i) (.exit 0) (fC a0 a1 a2 b0 b1 b2 i'):=by
 subst Ar;subst Aj;exact aA.fi (gZ c7) [bF] (gc bQt gn)
def Ev(a0 a1 a2 b0 b1 b2:Int):Int:=if jJ a0 b0≠0 then jJ a0 b0 else if jJ a1 b1≠0 then jJ a1 b1 else jJ a2 b2
theorem bVl(a0 a1 a2 b0 b1 b2:Int):FMM Tp 178 [.arr 0 0 3,.arr 1 0 3] [some (.box 186 [(pI a0),(pI a1),(pI a2)]),some (.box 186 [(pI b0),(pI b1),(pI b2)])] (pI (Ev a0 a1 a2 b0 b1 b2)) [some (.box 186 [(pI a0),(pI a1),(pI a2)]),some (.box 186 [(pI b0),(pI b1),(pI b2)])]:=by
 unfold Ev
 by_cases h0:jJ a0 b0=0
 ·rw [if_neg (by simp [h0])]
  by_cases h1:jJ a1 b1=0
  ·rw [if_neg (by simp [h1])]
   by_cases h2:jJ a2 b2=0
   ·rw [h2]
    exact bVk (.step (wE rfl h0 rfl) (.step (aEd rfl h1 rfl) (.step (aYr rfl h2 rfl) (.exit (aYs rfl rfl) (by simp)))))
   ·exact aOr (Aq:=2) (.step (wE rfl h0 rfl) (.step (aEd rfl h1 rfl) (.exit (aYq rfl h2 rfl) (by simp)))) rfl
  ·rw [if_pos h1]
   exact aOr (Aq:=1) (.step (wE rfl h0 rfl) (.exit (aYp rfl h1 rfl) (by simp))) rfl
 ·rw [if_pos h0]
  exact aOr (Aq:=0) (.exit (aYo rfl h0 rfl) (by simp)) rfl
def bU(k:Int)(r t:List Cel):Int:=Ev (aK k r 0) (aK k r 1) (aK k r 2) (aK k t 0) (aK k t 1) (aK k t 2)
theorem bVm{r t:List Cel}(h0:aO k≤(r.length:Int))(h1:aO k≤(t.length:Int))(Al:r0=(Ev (aK k r 0) (aK k r 1) (aK k r 2) (aK k t 0) (aK k t 1) (aK k t 2))):FV Tp 92 [(pI k),(.p (.sl r.length ((r.map cE).flatten))),(.p (.sl t.length ((t.map cE).flatten)))] base (pI r0) []:=by
 subst Al;have k1:=fk 0 (eH k r h0) rfl;have k2:=fk 0 (eH k t h1) rfl;have k3:=mq [0,1] 2 (bVl (aK k r 0) (aK k r 1) (aK k r 2) (aK k t 0) (aK k t 1) (aK k t 2));exact FV.fi func92 [k1.o,k2.o,k3.o] (gc k3 (gt (0≤(0:Int)∧(0:Int)≤3∧(3:Int)≤3∧3≤maxLen) (by unfold maxLen;omega) (gt (0≤(0:Int)∧(0:Int)≤3∧(3:Int)≤3∧3≤maxLen) (by unfold maxLen;omega) (gc k2 (gc k1 gn)))))
end
section
variable {k r0:Int}{i Aq base:Nat}

noncomputable abbrev uP:Code:=sub (cd Tryz.f102) [1,1,1,0,1,0,0]
theorem mG(k:Int)(r t:List Cel)(h:aO k≤(r.length:Int))(h2:aO k≤(t.length:Int)){base:Nat}:FV Tp 92 [.p (aB k),.p (.sl r.length ((r.map cE).flatten)),.p (.sl t.length ((t.map cE).flatten))] base (pI (bU k r t)) []:=bVm h h2 rfl
def aEa(k:Int)(R:List (List Cel))(i:Nat):Int:=if bU k ((R[i-1]?).getD []) ((R[i]?).getD [])=0 then 5 else 4
def fB(k:Int)(R:List (List Cel))(i:Nat):St:=⟨fr 57 [(1,(.ptr 0 0)),(4,(pI (i:Int)))],[some (.box 26 [(pI k),(.p (.sl R.length (R.map aN)))])]⟩
theorem bVb{R:List (List Cel)}(h0:(within k 0 4)=false):FV Tp 102 [(.p (.agg [(aB k),(.sl R.length (R.map aN))]))] base (pI 1) []:=have k1:=fk 1 (qD k) rfl;FV.fi func102 [k1.o,bT] (gc (dB h0) (gc k1 gn))
theorem bVc{R:List (List Cel)}(h0:(within k 0 4)=true)(h1:(200:Int)<(R.length:Int)):FV Tp 102 [(.p (.agg [(aB k),(.sl R.length (R.map aN))]))] base (pI 2) []:=have k1:=fk 1 (qD k) rfl;FV.fi func102 ([k1.o,bF]++rT 5) (Cw (cP h1) (gc (aU h0) (gc k1 gn)))
section
variable{R:List (List Cel)}(h0:(within k 0 4)=true)(h1:(R.length:Int)≤200)(h2:R.length≤100000)
include h0 h1 h2
theorem bVd(h3:(R.all (Dv))=false):FV Tp 102 [(.p (.agg [(aB k),(.sl R.length (R.map aN))]))] base (pI 2) []:=have k1:=fk 1 (qD k) rfl;have k2:=fk 1 (yC R h2) rfl;FV.fi func102 [k1.o,bF,bF,bF,bF,k2.o,bF,bF,bT] (gc (dB h3) (A2 (bL h1) (gc k2 (Ay (bL h1) (gc (aU h0) (gc k1 gn))))))
theorem bVe(h3:(R.all (Dv))=true)(h4:(lF k R)≠0)(Al:r0=(lF k R)):FV Tp 102 [(.p (.agg [(aB k),(.sl R.length (R.map aN))]))] base (pI r0) []:=by
 subst Al;have k1:=fk 1 (qD k) rfl;have k2:=fk 1 (yC R h2) rfl;exact FV.fi func102 [k1.o,bF,bF,bF,bF,k2.o,bF,bF,bF,.c (pI (lF k R)) [],bT] (gc (fJ h4) (gc (fk 1 (aGp k R h2) rfl) (gc (aU h3) (A2 (bL h1) (gc k2 (Ay (bL h1) (gc (aU h0) (gc k1 gn))))))))
theorem bVf(h3:(R.all (Dv))=true)(h4:(lF k R)=0)(C5:aF Tp 0 uP (fB k R 1) (.exit 1) (fB k R Aq)):FV Tp 102 [(.p (.agg [(aB k),(.sl R.length (R.map aN))]))] base (pI 0) []:=have k1:=fk 1 (qD k) rfl;have k2:=fk 1 (yC R h2) rfl;FV.fi func102 [k1.o,bF,bF,bF,bF,k2.o,bF,bF,bF,.c (pI (lF k R)) [],bF,C5.k 4 (gI br [0])] (gc C5.code (gc (bK h4) (gc (fk 1 (aGp k R h2) rfl) (gc (aU h3) (A2 (bL h1) (gc k2 (Ay (bL h1) (gc (aU h0) (gc k1 gn)))))))))
theorem bVg(h3:(R.all (Dv))=true)(h4:(lF k R)=0)(C5:aF Tp 0 uP (fB k R 1) .ret (cN (fB k R Aq) [(2,(pI (aEa k R Aq)))]))(Al:r0=(aEa k R Aq)):FV Tp 102 [(.p (.agg [(aB k),(.sl R.length (R.map aN))]))] base (pI r0) []:=by
 subst Al;have k1:=fk 1 (qD k) rfl;have k2:=fk 1 (yC R h2) rfl;exact FV.fi func102 [k1.o,bF,bF,bF,bF,k2.o,bF,bF,bF,.c (pI (lF k R)) [],bF,C5.k 4 (gI br [0])] (gc C5.code (gc (bK h4) (gc (fk 1 (aGp k R h2) rfl) (gc (aU h3) (A2 (bL h1) (gc k2 (Ay (bL h1) (gc (aU h0) (gc k1 gn)))))))))
end
section
variable{R:List (List Cel)}{Ab A3:List Cel}(h0:(i:Int)<(R.length:Int))(h1:inR ((i:Int)-1))(h2:R[((i:Int)-1).toNat]? = some Ab)(h3:0≤((i:Int)-1))(h4:R[i]? = some A3)(h5:aO k≤(Ab.length:Int))(h6:aO k≤(A3.length:Int))
include h0 h1 h2 h3 h4 h5 h6
theorem aYh(h7:(bU k Ab A3)=0):aA Tp 0 uP (fB k R i) .ret (cN (fB k R i) [(2,(pI 5))]):=have k1:=fk 1 (mG k Ab A3 h5 h6) rfl;aA.fi (gI [0,1,3,1,5,52] [0]) [bT,.x (.sl Ab.length ((Ab.map cE).flatten)),.x (.sl A3.length ((A3.map cE).flatten)),k1.o,bT] (gc (dC h7) (gc k1 (gc (atm aN h4) (gc (ixn aN h4) (gt ((R.map aN)[(((i:Int)-1).toNat*1)]? = some (.sl Ab.length ((Ab.map cE).flatten))) (sF (i:=((i:Int)-1).toNat) h2) (gc (sG (g:=aN) h3 h2) (gc h1 (g0 h0))))))))
theorem aYi(h7:(bU k Ab A3)≠0)(h8:(0:Int)<(bU k Ab A3)):aA Tp 0 uP (fB k R i) .ret (cN (fB k R i) [(2,(pI 4))]):=have k1:=fk 1 (mG k Ab A3 h5 h6) rfl;aA.fi (gI [0,1,3,1,5,52] [0]) [bT,.x (.sl Ab.length ((Ab.map cE).flatten)),.x (.sl A3.length ((A3.map cE).flatten)),k1.o,bF,bT] (gc (cP h8) (gc (bP h7) (gc k1 (gc (atm aN h4) (gc (ixn aN h4) (gt ((R.map aN)[(((i:Int)-1).toNat*1)]? = some (.sl Ab.length ((Ab.map cE).flatten))) (sF (i:=((i:Int)-1).toNat) h2) (gc (sG (g:=aN) h3 h2) (gc h1 (g0 h0)))))))))
theorem aYj{i':Nat}(h7:(bU k Ab A3)≠0)(h8:(bU k Ab A3)≤0)(h9:cn i)(Aj:i'=(i+1)):aA Tp 0 uP (fB k R i) .normal (fB k R i'):=by
 subst Aj;have k1:=fk 1 (mG k Ab A3 h5 h6) rfl;exact aA.fi (gI br [0]) [bT,.x (.sl Ab.length ((Ab.map cE).flatten)),.x (.sl A3.length ((A3.map cE).flatten)),k1.o,bF,bF] (gc h9 (gc (bL h8) (gc (bP h7) (gc k1 (gc (atm aN h4) (gc (ixn aN h4) (gt ((R.map aN)[(((i:Int)-1).toNat*1)]? = some (.sl Ab.length ((Ab.map cE).flatten))) (sF (i:=((i:Int)-1).toNat) h2) (gc (sG (g:=aN) h3 h2) (gc h1 (g0 h0))))))))))
end
theorem aEb{R:List (List Cel)}(h0:(R.length:Int)≤(i:Int)):aA Tp 0 uP (fB k R i) (.exit 1) (fB k R i):=aA.fi (gI br [0]) [bF] (gc (bL h0) gn)
def oJ(k:Int):List (List Cel)→Int
 | a::b::l=>if bU k a b=0 then 5 else if 0<bU k a b then 4 else oJ k (b::l)
 | _=>0
def dW(k:Int)(R:List (List Cel)):Int:=if within k 0 4=false then 1 else if 200<R.length∨R.all Dv=false then 2 else if lF k R≠0 then lF k R else oJ k R
theorem uQ(k:Int):aO k≤((aJ k).length:Int):=by
 unfold aO aJ
 by_cases h0:k=0
 ·subst h0;decide
 ·by_cases h1:k=1
  ·subst h1;decide
  ·by_cases h2:k=2
   ·subst h2;decide
   ·by_cases h3:k=3
    ·subst h3;decide
    ·simp [h0,h1,h2,h3]
theorem aRy{k:Int}{x:List Cel}(h0:Dv x=true)(h:fD k x=true):x.length=(aJ k).length:=by
 have h0:=of_decide_eq_true h0;unfold fD at h
 rw [aCf] at h
 rcases h with h | h
 ·have:=of_decide_eq_true h;omega
 ·have:=eq_of_beq h;omega
theorem bGp{k:Int}{x:List Cel}(h0:Dv x=true)(h:fD k x=true):aO k≤(x.length:Int):=by
 rw [aRy h0 h];exact uQ k
theorem aRz{k:Int}{R:List (List Cel)}(h:lF k R≠2):R.all (fD k)=true:=by
 cases q:R.all (fD k)
 ·exact absurd (by unfold lF;rw [if_pos q]) h
 ·rfl
theorem aKf{k:Int}{R:List (List Cel)}(hR:R.length≤200)(hk:∀ x∈R,aO k≤(x.length:Int)):∀ (l:List (List Cel)) (i:Nat),1≤i→R.drop (i-1)=l →
  (oJ k l=0∧∃ j,aF Tp 0 uP (fB k R i) (.exit 1) (fB k R j))∨(oJ k l≠0∧∃ j,oJ k l=aEa k R j∧aF Tp 0 uP (fB k R i) .ret (cN (fB k R j) [(2,(pI (aEa k R j)))]))
 | [],i,hi,hd=>by
  have hl:R.length≤i-1:=List.drop_eq_nil_iff.1 hd;exact .inl ⟨rfl,i,.exit (aEb (by omega)) (by simp)⟩
 | [a],i,hi,hd=>by
  have hl:=congrArg List.length hd;rw [xV,List.length_singleton] at hl
  exact .inl ⟨rfl,i,.exit (aEb (by omega)) (by simp)⟩
 | a::b::l,i,hi,hd=>by
  have hl:=congrArg List.length hd;rw [xV,eY,eY] at hl
  have ha:R[i-1]? = some a:=by
   have:=congrArg (fun l:List (List Cel)=>l[0]?) hd
   simpa using this
  have hb:R[i]? = some b:=by
   have:=congrArg (fun l:List (List Cel)=>l[1]?) hd
   rw [List.getElem?_drop] at this
   rw [show i-1+1=i by omega] at this
   simpa using this
  have Ew:R[((i:Int)-1).toNat]? = some a:=by rw [show ((i:Int)-1).toNat=i-1 by omega];exact ha
  have ka:=hk a (Cj ha);have kb:=hk b (Cj hb);have Fo:R.drop (i+1-1)=b::l:=by
   have:=congrArg List.tail hd;rw [List.tail_drop] at this
   rw [show i+1-1=i-1+1 by omega];exact this
  have hat:aEa k R i=if bU k a b=0 then 5 else 4:=by unfold aEa;rw [ha,hb];rfl
  unfold oJ
  by_cases h0:bU k a b=0
  ·rw [if_pos h0]
   rw [if_pos h0] at hat
   refine .inr ⟨by decide,i,hat.symm,?_⟩
   rw [hat];exact .exit (aYh (by omega) (by show _∧_;omega) Ew (by omega) hb ka kb h0) (by simp)
  ·rw [if_neg h0]
   by_cases h1:0<bU k a b
   ·rw [if_pos h1]
    rw [if_neg h0] at hat
    refine .inr ⟨by decide,i,hat.symm,?_⟩
    rw [hat];exact .exit (aYi (by omega) (by show _∧_;omega) Ew (by omega) hb ka kb h0 h1) (by simp)
   ·rw [if_neg h1]
    have hs:aA Tp 0 uP (fB k R i) .normal (fB k R (i+1)):=aYj (by omega) (by show _∧_;omega) Ew (by omega) hb ka kb h0 (by omega) (aV (by omega)) rfl
    rcases aKf hR hk (b::l) (i+1) (by omega) Fo with ⟨q,j,L⟩ | ⟨q,j,q2,L⟩
    ·exact .inl ⟨q,j,.step hs L⟩
    ·exact .inr ⟨q,j,q2,.step hs L⟩
theorem iM(k:Int)(R:List (List Cel)){base:Nat}:FV Tp 102 [.p (.agg [aB k,cD R])] base (pI (dW k R)) []:=by
 unfold dW;cases hk:within k 0 4
 ·rw [if_pos rfl];exact bVb hk
 ·rw [if_neg (by simp)]
  by_cases hl:200<R.length
  ·rw [if_pos (.inl hl)];exact bVc hk (by omega)
  ·cases hn:R.all Dv
   ·rw [if_pos (.inr rfl)];exact bVd hk (by omega) (by omega) hn
   ·rw [if_neg (by simp [hl])]
    by_cases hc:lF k R=0
    ·rw [if_neg (by simp [hc])]
     have hf:=aRz (k:=k) (R:=R) (by rw [hc];decide)
     rw [hZ] at hf
     have Lm:=hn;rw [hZ] at Lm
     rcases aKf (k:=k) (R:=R) (by omega) (fun x hx=>bGp (Lm x hx) (hf x hx)) R 1 (by omega) rfl with ⟨q,j,L⟩ | ⟨q,j,q2,L⟩
     ·rw [q];exact bVf hk (by omega) (by omega) hn hc L
     ·rw [q2];exact bVg hk (by omega) (by omega) hn hc L rfl
    ·rw [if_pos hc];exact bVe hk (by omega) (by omega) hn hc rfl
end
end KV
end Go.Proofs
section
namespace Go.Proofs
open Go.RowKit
namespace KV
open Tryz
theorem aSj{w:World}{b o:Nat}{v:Value}(h:w.cell? ⟨b,o,none⟩=some v):b<w.heap.size:=by
 unfold World.cell? at h
 cases hb:w.heap[b]? with
 | none=>simp [hb] at h
 | some x=>exact (mD.1 hb).1
theorem aKo{F:Nat→Prop}{w:World}{l:List UInt8}{u:Value}(h:cU F w (aD l) u):u = .string ⟨l.toArray⟩:=by cases h;rfl
theorem bNz(l:List (List UInt8))(sep:List UInt8)(h1:l.length≤140737488355328)(h2:(Lib.join l sep).length≤140737488355328){base:Nat}:FV Tp 50 [.p (.sl l.length (l.map aD)),.p (aD sep)] base (.p (aD (Lib.join l sep))) []:=FV.ofc rfl fun C w us hus hM=>by
 cases hus with | cons _ u _ k h hr =>
 cases hr with | cons _ u2 _ k2 M6 Dn =>
 cases Dn;cases M6 with | p _ _ M6 =>
 obtain rfl:=aKo M6;cases h with | p _ _ h =>
 cases h with | sl _ _ p cap vs q1 q2 q3 q4 q5 =>
 by_cases h0:l=[]
 ·subst h0
  refine (Tryz.strings_Join_none p cap ⟨sep.toArray⟩ w).mono ?_;rintro e w' ⟨rfl,rfl⟩;exact ⟨_,rfl,Below.refl _ _,.p _ _ (.v _)⟩
 ·have hl:0<l.length:=List.length_pos_iff.2 h0
  obtain ⟨b,o,hp,_,Pz⟩:=q3 0 (by simpa using hl)
  subst hp;have hlen:l.length=(l.map fun x=>(⟨x.toArray⟩:ByteArray)).length:=by simp
  have ex:(l.map fun x=>(⟨x.toArray⟩:ByteArray)).map (·.data.toList)=l:=by simp [xW,Function.comp_def]
  have:=Tryz.strings_Join b o cap (l.map fun x=>(⟨x.toArray⟩:ByteArray)) ⟨sep.toArray⟩ w (fun j x hx=>by
    rw [uM] at hx
    obtain ⟨y,hy,rfl⟩:=Da.1 hx;have hj:=(Cf.1 hy).1;obtain ⟨b',o',hp,_,hc⟩:=q3 j (by simpa using hj)
    cases hp;rw [hc];have hr:=q4 j (by simpa using hj)
    rw [gY] at hr
    have e:l[j]=y:=(Cf.1 hy).2;rw [e] at hr
    exact congrArg some (aKo hr)) (aSj Pz) (by simpa using h1) (by simpa using q1) (by rw [ex];exact h2)
  rw [ex,mE] at this
  refine this.mono ?_;rintro e w' ⟨rfl,hb⟩;exact ⟨_,rfl,hb,.p _ _ (.v _)⟩
end KV
end Go.Proofs
end
namespace Go.Proofs
namespace KV
open Tryz
section
variable {k Bm:Int}{i j j' Aq base:Nat}

noncomputable abbrev oV:Code:=pS (cd Tryz.f28) 5 [0,1,0,0]
noncomputable abbrev aDz:Code:=pS (cd Tryz.f28) 5 [0,1,0,0,1,1,0,0,1,1,0,1,0,0]
theorem bQo:0≤(0:Int)∧(0:Int)<5:=by first | decide | simp
theorem bQp:0≤(1:Int)∧(1:Int)<5:=by first | decide | simp
theorem bQq:0≤(2:Int)∧(2:Int)<5:=by first | decide | simp
theorem bQr:0≤(3:Int)∧(3:Int)<5:=by first | decide | simp
theorem bQs:0≤(4:Int)∧(4:Int)<5:=by first | decide | simp
def stE(s:List UInt8):List PV:=[aD s]
theorem jO:∀ l:List (List UInt8),(l.map stE).flatten=l.map aD
 | []=>rfl
 | s::l=>by rw [eZ,vU,jO l];rfl
theorem bGo(l:List (List UInt8))(sep:List UInt8)(h1:l.length≤140737488355328)(h2:(Lib.join l sep).length≤140737488355328){base:Nat}:FV Tp 50 [.p (.sl l.length ((l.map stE).flatten)),.p (aD sep)] base (.p (aD (Lib.join l sep))) []:=by rw [jO];exact bNz l sep h1 h2
theorem bUq{l:List (List UInt8)}(h0:l.length≤140737488355328)(h1:(Lib.join l ([32]:List UInt8)).length≤140737488355328)(h2:(Lib.join l ([32]:List UInt8)).length+([10]:List UInt8).length≤4611686018427387904):FV Tp 118 [(.p (.sl l.length ((l.map stE).flatten)))] base (.p (aD ((Lib.join l ([32]:List UInt8))++([10]:List UInt8)))) []:=have k1:=fk 0 (bGo l ([32]:List UInt8) h0 h1) rfl;FV.fi func118 [k1.o] (gc h2 (gc k1 gn))
def lnM(l:List (List UInt8)):List UInt8:=Lib.join l [32]++[10]
theorem eG(l:List (List UInt8))(h1:l.length≤1000000)(h2:(Lib.join l [32]).length≤1000000){base:Nat}:FV Tp 118 [.p (.sl l.length ((l.map stE).flatten))] base (.p (aD (lnM l))) []:=bUq (by omega) (by omega) (by simp;omega)
def cL(k:Int)(R:List (List Cel))(i:Nat)(o:List UInt8):St:=⟨fr 81 [(2,(.p (aD ([]:List UInt8)))),(3,(pI 0)),(5,(.p (aD o))),(6,(.p (bM (aJ k)))),(8,(.ptr 0 0)),(38,(.p (.sl R.length (R.map aN)))),(39,(pI (R.length:Int))),(40,(pI (i:Int)))],[some (.box 214 [(.fn 224 [] [(.rp [(PV.fn 188 [] [])] 0)]),(.fn 225 [] [(.rp [(PV.fn 120 [] [])] 0)]),(.fn 226 [] [(.rp [(aB 999999)] 0)]),(.fn 224 [] [(.rp [(PV.fn 39 [] [])] 0)]),(.fn 225 [] [(.rp [(PV.fn 189 [] [])] 0)]),(.fn 226 [] [(.rp [(aB 360000)] 0)]),(.fn 227 [] [(.rp [(PV.fn 191 [] [])] 0)]),(.fn 228 [] []),(.fn 229 [] [(.rp [(PV.fn 191 [] [])] 0)]),(.fn 227 [] [(.rp [(PV.fn 192 [] [])] 0)]),(.fn 228 [] []),(.fn 229 [] [(.rp [(PV.fn 192 [] [])] 0)])])]⟩
theorem bUr{R:List (List Cel)}{r0:Int}(h0:(dW k R)≠0)(Al:r0=(dW k R)):FV Tp 28 [(.p (.agg [(aB k),(.sl R.length (R.map aN))]))] base (.tup [(.p (aD ([]:List UInt8))),(pI r0)]) []:=by
 subst Al;exact FV.fi func28 [.c (pI (dW k R)) [],bT] (gc (fJ h0) (gc (fk 1 (iM k R) rfl) gn))
section
variable{R:List (List Cel)}{Ak:List UInt8}(h0:(dW k R)=0)(C3:k=0)(h2:inR (R.length:Int))(h3:([([107,108,105,115,116,101,114]:List UInt8),([115,116,97,114,116,115]:List UInt8),(Lib.itoa (R.length:Int))]:List (List UInt8)).length≤1000000)(h4:(Lib.join ([([107,108,105,115,116,101,114]:List UInt8),([115,116,97,114,116,115]:List UInt8),(Lib.itoa (R.length:Int))]:List (List UInt8)) [32]).length≤1000000)(C5:aF Tp 0 oV (cL k R 0 (lnM ([([107,108,105,115,116,101,114]:List UInt8),([115,116,97,114,116,115]:List UInt8),(Lib.itoa (R.length:Int))]:List (List UInt8)))) (.exit 0) (cL k R Aq Ak))
include h0 C3 h2 h3 h4 C5
theorem bUs(h6:Ak.length≤65536)(h7:inR (bI Ak))(h8:([([115,117,109]:List UInt8),(Lib.itoa (bI Ak))]:List (List UInt8)).length≤1000000)(h9:(Lib.join ([([115,117,109]:List UInt8),(Lib.itoa (bI Ak))]:List (List UInt8)) [32]).length≤1000000)(A5:Ak.length+(lnM ([([115,117,109]:List UInt8),(Lib.itoa (bI Ak))]:List (List UInt8))).length≤4611686018427387904):FV Tp 28 [(.p (.agg [(aB k),(.sl R.length (R.map aN))]))] base (.tup [(.p (aD (Ak++(lnM ([([115,117,109]:List UInt8),(Lib.itoa (bI Ak))]:List (List UInt8)))))),(pI 0)]) []:=by
 subst C3;have k1:=fk 1 (iM 0 R) rfl;have k2:=fk 1 (kE) rfl;have k3:=fk 10 (dG (R.length:Int) h2) rfl;have k4:=fk 19 (fE 0) rfl;have k5:=fk 19 (eQ) rfl;have k6:=fk 1 (jP Ak h6) rfl;have k7:=fk 1 (dG (bI Ak) h7) rfl;exact FV.fi func28 [k1.o,bF,k2.o,k3.o,.c (.p (aD (lnM ([([107,108,105,115,116,101,114]:List UInt8),([115,116,97,114,116,115]:List UInt8),(Lib.itoa (R.length:Int))]:List (List UInt8))))) [(18,.dead)],k4.o,k5.o,.k 4 (gI ax [19]) (.exit 0) (cL 0 R Aq Ak),k6.o,k7.o,.c (.p (aD (lnM ([([115,117,109]:List UInt8),(Lib.itoa (bI Ak))]:List (List UInt8))))) [(1,.dead)]] (gc A5 (gt (FC Tp 118 [(.own 1)] [(1,(.row 9 2 [(aD ([115,117,109]:List UInt8)),(aD (Lib.itoa (bI Ak)))]))] 2 (.p (aD (lnM ([([115,117,109]:List UInt8),(Lib.itoa (bI Ak))]:List (List UInt8))))) [(1,.dead)]) (FV.close (ids:=[1]) (Am:=[(.p (.sl 2 [(aD ([115,117,109]:List UInt8)),(aD (Lib.itoa (bI Ak)))]))]) (eG ([([115,117,109]:List UInt8),(Lib.itoa (bI Ak))]:List (List UInt8)) h8 h9) (by kernel_rfl)) (gc k7 (gc k6 (gc C5.code (gc k5 (gc k4 (gt (FC Tp 118 [(.own 18)] [(18,(.row 9 3 [(aD ([107,108,105,115,116,101,114]:List UInt8)),(aD ([115,116,97,114,116,115]:List UInt8)),(aD (Lib.itoa (R.length:Int)))]))] 19 (.p (aD (lnM ([([107,108,105,115,116,101,114]:List UInt8),([115,116,97,114,116,115]:List UInt8),(Lib.itoa (R.length:Int))]:List (List UInt8))))) [(18,.dead)]) (FV.close (ids:=[18]) (Am:=[(.p (.sl 3 [(aD ([107,108,105,115,116,101,114]:List UInt8)),(aD ([115,116,97,114,116,115]:List UInt8)),(aD (Lib.itoa (R.length:Int)))]))]) (eG ([([107,108,105,115,116,101,114]:List UInt8),([115,116,97,114,116,115]:List UInt8),(Lib.itoa (R.length:Int))]:List (List UInt8)) h3 h4) (by kernel_rfl)) (gc k3 (gc bQo (gc k2 (gc (bK h0) (gc k1 gn)))))))))))))
theorem bUt(h6:65536<Ak.length)(h7:inR 0)(h8:([([115,117,109]:List UInt8),(Lib.itoa 0)]:List (List UInt8)).length≤1000000)(h9:(Lib.join ([([115,117,109]:List UInt8),(Lib.itoa 0)]:List (List UInt8)) [32]).length≤1000000)(A5:Ak.length+(lnM ([([115,117,109]:List UInt8),(Lib.itoa 0)]:List (List UInt8))).length≤4611686018427387904):FV Tp 28 [(.p (.agg [(aB k),(.sl R.length (R.map aN))]))] base (.tup [(.p (aD (Ak++(lnM ([([115,117,109]:List UInt8),(Lib.itoa 0)]:List (List UInt8)))))),(pI 0)]) []:=by
 subst C3;have k1:=fk 1 (iM 0 R) rfl;have k2:=fk 1 (kE) rfl;have k3:=fk 10 (dG (R.length:Int) h2) rfl;have k4:=fk 19 (fE 0) rfl;have k5:=fk 19 (eQ) rfl;have k6:=fk 1 (qB Ak h6) rfl;have k7:=fk 1 (dG 0 h7) rfl;exact FV.fi func28 [k1.o,bF,k2.o,k3.o,.c (.p (aD (lnM ([([107,108,105,115,116,101,114]:List UInt8),([115,116,97,114,116,115]:List UInt8),(Lib.itoa (R.length:Int))]:List (List UInt8))))) [(18,.dead)],k4.o,k5.o,.k 4 (gI ax [19]) (.exit 0) (cL 0 R Aq Ak),k6.o,k7.o,.c (.p (aD (lnM ([([115,117,109]:List UInt8),(Lib.itoa 0)]:List (List UInt8))))) [(1,.dead)]] (gc A5 (gt (FC Tp 118 [(.own 1)] [(1,(.row 9 2 [(aD ([115,117,109]:List UInt8)),(aD (Lib.itoa 0))]))] 2 (.p (aD (lnM ([([115,117,109]:List UInt8),(Lib.itoa 0)]:List (List UInt8))))) [(1,.dead)]) (FV.close (ids:=[1]) (Am:=[(.p (.sl 2 [(aD ([115,117,109]:List UInt8)),(aD (Lib.itoa 0))]))]) (eG ([([115,117,109]:List UInt8),(Lib.itoa 0)]:List (List UInt8)) h8 h9) (by kernel_rfl)) (gc k7 (gc k6 (gc C5.code (gc k5 (gc k4 (gt (FC Tp 118 [(.own 18)] [(18,(.row 9 3 [(aD ([107,108,105,115,116,101,114]:List UInt8)),(aD ([115,116,97,114,116,115]:List UInt8)),(aD (Lib.itoa (R.length:Int)))]))] 19 (.p (aD (lnM ([([107,108,105,115,116,101,114]:List UInt8),([115,116,97,114,116,115]:List UInt8),(Lib.itoa (R.length:Int))]:List (List UInt8))))) [(18,.dead)]) (FV.close (ids:=[18]) (Am:=[(.p (.sl 3 [(aD ([107,108,105,115,116,101,114]:List UInt8)),(aD ([115,116,97,114,116,115]:List UInt8)),(aD (Lib.itoa (R.length:Int)))]))]) (eG ([([107,108,105,115,116,101,114]:List UInt8),([115,116,97,114,116,115]:List UInt8),(Lib.itoa (R.length:Int))]:List (List UInt8)) h3 h4) (by kernel_rfl)) (gc k3 (gc bQo (gc k2 (gc (bK h0) (gc k1 gn)))))))))))))
end
section
variable{R:List (List Cel)}{Ak:List UInt8}(h0:(dW k R)=0)(C3:k=1)(h2:inR (R.length:Int))(h3:([([107,108,105,115,116,101,114]:List UInt8),([112,97,115,115,101,115]:List UInt8),(Lib.itoa (R.length:Int))]:List (List UInt8)).length≤1000000)(h4:(Lib.join ([([107,108,105,115,116,101,114]:List UInt8),([112,97,115,115,101,115]:List UInt8),(Lib.itoa (R.length:Int))]:List (List UInt8)) [32]).length≤1000000)(C5:aF Tp 0 oV (cL k R 0 (lnM ([([107,108,105,115,116,101,114]:List UInt8),([112,97,115,115,101,115]:List UInt8),(Lib.itoa (R.length:Int))]:List (List UInt8)))) (.exit 0) (cL k R Aq Ak))
include h0 C3 h2 h3 h4 C5
theorem bUu(h6:Ak.length≤65536)(h7:inR (bI Ak))(h8:([([115,117,109]:List UInt8),(Lib.itoa (bI Ak))]:List (List UInt8)).length≤1000000)(h9:(Lib.join ([([115,117,109]:List UInt8),(Lib.itoa (bI Ak))]:List (List UInt8)) [32]).length≤1000000)(A5:Ak.length+(lnM ([([115,117,109]:List UInt8),(Lib.itoa (bI Ak))]:List (List UInt8))).length≤4611686018427387904):FV Tp 28 [(.p (.agg [(aB k),(.sl R.length (R.map aN))]))] base (.tup [(.p (aD (Ak++(lnM ([([115,117,109]:List UInt8),(Lib.itoa (bI Ak))]:List (List UInt8)))))),(pI 0)]) []:=by
 subst C3;have k1:=fk 1 (iM 1 R) rfl;have k2:=fk 1 (kE) rfl;have k3:=fk 10 (dG (R.length:Int) h2) rfl;have k4:=fk 19 (fE 1) rfl;have k5:=fk 19 (eQ) rfl;have k6:=fk 1 (jP Ak h6) rfl;have k7:=fk 1 (dG (bI Ak) h7) rfl;exact FV.fi func28 [k1.o,bF,k2.o,k3.o,.c (.p (aD (lnM ([([107,108,105,115,116,101,114]:List UInt8),([112,97,115,115,101,115]:List UInt8),(Lib.itoa (R.length:Int))]:List (List UInt8))))) [(18,.dead)],k4.o,k5.o,.k 4 (gI ax [19]) (.exit 0) (cL 1 R Aq Ak),k6.o,k7.o,.c (.p (aD (lnM ([([115,117,109]:List UInt8),(Lib.itoa (bI Ak))]:List (List UInt8))))) [(1,.dead)]] (gc A5 (gt (FC Tp 118 [(.own 1)] [(1,(.row 9 2 [(aD ([115,117,109]:List UInt8)),(aD (Lib.itoa (bI Ak)))]))] 2 (.p (aD (lnM ([([115,117,109]:List UInt8),(Lib.itoa (bI Ak))]:List (List UInt8))))) [(1,.dead)]) (FV.close (ids:=[1]) (Am:=[(.p (.sl 2 [(aD ([115,117,109]:List UInt8)),(aD (Lib.itoa (bI Ak)))]))]) (eG ([([115,117,109]:List UInt8),(Lib.itoa (bI Ak))]:List (List UInt8)) h8 h9) (by kernel_rfl)) (gc k7 (gc k6 (gc C5.code (gc k5 (gc k4 (gt (FC Tp 118 [(.own 18)] [(18,(.row 9 3 [(aD ([107,108,105,115,116,101,114]:List UInt8)),(aD ([112,97,115,115,101,115]:List UInt8)),(aD (Lib.itoa (R.length:Int)))]))] 19 (.p (aD (lnM ([([107,108,105,115,116,101,114]:List UInt8),([112,97,115,115,101,115]:List UInt8),(Lib.itoa (R.length:Int))]:List (List UInt8))))) [(18,.dead)]) (FV.close (ids:=[18]) (Am:=[(.p (.sl 3 [(aD ([107,108,105,115,116,101,114]:List UInt8)),(aD ([112,97,115,115,101,115]:List UInt8)),(aD (Lib.itoa (R.length:Int)))]))]) (eG ([([107,108,105,115,116,101,114]:List UInt8),([112,97,115,115,101,115]:List UInt8),(Lib.itoa (R.length:Int))]:List (List UInt8)) h3 h4) (by kernel_rfl)) (gc k3 (gc bQp (gc k2 (gc (bK h0) (gc k1 gn)))))))))))))
theorem bUv(h6:65536<Ak.length)(h7:inR 0)(h8:([([115,117,109]:List UInt8),(Lib.itoa 0)]:List (List UInt8)).length≤1000000)(h9:(Lib.join ([([115,117,109]:List UInt8),(Lib.itoa 0)]:List (List UInt8)) [32]).length≤1000000)(A5:Ak.length+(lnM ([([115,117,109]:List UInt8),(Lib.itoa 0)]:List (List UInt8))).length≤4611686018427387904):FV Tp 28 [(.p (.agg [(aB k),(.sl R.length (R.map aN))]))] base (.tup [(.p (aD (Ak++(lnM ([([115,117,109]:List UInt8),(Lib.itoa 0)]:List (List UInt8)))))),(pI 0)]) []:=by
 subst C3;have k1:=fk 1 (iM 1 R) rfl;have k2:=fk 1 (kE) rfl;have k3:=fk 10 (dG (R.length:Int) h2) rfl;have k4:=fk 19 (fE 1) rfl;have k5:=fk 19 (eQ) rfl;have k6:=fk 1 (qB Ak h6) rfl;have k7:=fk 1 (dG 0 h7) rfl;exact FV.fi func28 [k1.o,bF,k2.o,k3.o,.c (.p (aD (lnM ([([107,108,105,115,116,101,114]:List UInt8),([112,97,115,115,101,115]:List UInt8),(Lib.itoa (R.length:Int))]:List (List UInt8))))) [(18,.dead)],k4.o,k5.o,.k 4 (gI ax [19]) (.exit 0) (cL 1 R Aq Ak),k6.o,k7.o,.c (.p (aD (lnM ([([115,117,109]:List UInt8),(Lib.itoa 0)]:List (List UInt8))))) [(1,.dead)]] (gc A5 (gt (FC Tp 118 [(.own 1)] [(1,(.row 9 2 [(aD ([115,117,109]:List UInt8)),(aD (Lib.itoa 0))]))] 2 (.p (aD (lnM ([([115,117,109]:List UInt8),(Lib.itoa 0)]:List (List UInt8))))) [(1,.dead)]) (FV.close (ids:=[1]) (Am:=[(.p (.sl 2 [(aD ([115,117,109]:List UInt8)),(aD (Lib.itoa 0))]))]) (eG ([([115,117,109]:List UInt8),(Lib.itoa 0)]:List (List UInt8)) h8 h9) (by kernel_rfl)) (gc k7 (gc k6 (gc C5.code (gc k5 (gc k4 (gt (FC Tp 118 [(.own 18)] [(18,(.row 9 3 [(aD ([107,108,105,115,116,101,114]:List UInt8)),(aD ([112,97,115,115,101,115]:List UInt8)),(aD (Lib.itoa (R.length:Int)))]))] 19 (.p (aD (lnM ([([107,108,105,115,116,101,114]:List UInt8),([112,97,115,115,101,115]:List UInt8),(Lib.itoa (R.length:Int))]:List (List UInt8))))) [(18,.dead)]) (FV.close (ids:=[18]) (Am:=[(.p (.sl 3 [(aD ([107,108,105,115,116,101,114]:List UInt8)),(aD ([112,97,115,115,101,115]:List UInt8)),(aD (Lib.itoa (R.length:Int)))]))]) (eG ([([107,108,105,115,116,101,114]:List UInt8),([112,97,115,115,101,115]:List UInt8),(Lib.itoa (R.length:Int))]:List (List UInt8)) h3 h4) (by kernel_rfl)) (gc k3 (gc bQp (gc k2 (gc (bK h0) (gc k1 gn)))))))))))))
end
section
variable{R:List (List Cel)}{Ak:List UInt8}(h0:(dW k R)=0)(C3:k=2)(h2:inR (R.length:Int))(h3:([([107,108,105,115,116,101,114]:List UInt8),([116,97,114,103,101,116,115]:List UInt8),(Lib.itoa (R.length:Int))]:List (List UInt8)).length≤1000000)(h4:(Lib.join ([([107,108,105,115,116,101,114]:List UInt8),([116,97,114,103,101,116,115]:List UInt8),(Lib.itoa (R.length:Int))]:List (List UInt8)) [32]).length≤1000000)(C5:aF Tp 0 oV (cL k R 0 (lnM ([([107,108,105,115,116,101,114]:List UInt8),([116,97,114,103,101,116,115]:List UInt8),(Lib.itoa (R.length:Int))]:List (List UInt8)))) (.exit 0) (cL k R Aq Ak))
include h0 C3 h2 h3 h4 C5
theorem bUw(h6:Ak.length≤65536)(h7:inR (bI Ak))(h8:([([115,117,109]:List UInt8),(Lib.itoa (bI Ak))]:List (List UInt8)).length≤1000000)(h9:(Lib.join ([([115,117,109]:List UInt8),(Lib.itoa (bI Ak))]:List (List UInt8)) [32]).length≤1000000)(A5:Ak.length+(lnM ([([115,117,109]:List UInt8),(Lib.itoa (bI Ak))]:List (List UInt8))).length≤4611686018427387904):FV Tp 28 [(.p (.agg [(aB k),(.sl R.length (R.map aN))]))] base (.tup [(.p (aD (Ak++(lnM ([([115,117,109]:List UInt8),(Lib.itoa (bI Ak))]:List (List UInt8)))))),(pI 0)]) []:=by
 subst C3;have k1:=fk 1 (iM 2 R) rfl;have k2:=fk 1 (kE) rfl;have k3:=fk 10 (dG (R.length:Int) h2) rfl;have k4:=fk 19 (fE 2) rfl;have k5:=fk 19 (eQ) rfl;have k6:=fk 1 (jP Ak h6) rfl;have k7:=fk 1 (dG (bI Ak) h7) rfl;exact FV.fi func28 [k1.o,bF,k2.o,k3.o,.c (.p (aD (lnM ([([107,108,105,115,116,101,114]:List UInt8),([116,97,114,103,101,116,115]:List UInt8),(Lib.itoa (R.length:Int))]:List (List UInt8))))) [(18,.dead)],k4.o,k5.o,.k 4 (gI ax [19]) (.exit 0) (cL 2 R Aq Ak),k6.o,k7.o,.c (.p (aD (lnM ([([115,117,109]:List UInt8),(Lib.itoa (bI Ak))]:List (List UInt8))))) [(1,.dead)]] (gc A5 (gt (FC Tp 118 [(.own 1)] [(1,(.row 9 2 [(aD ([115,117,109]:List UInt8)),(aD (Lib.itoa (bI Ak)))]))] 2 (.p (aD (lnM ([([115,117,109]:List UInt8),(Lib.itoa (bI Ak))]:List (List UInt8))))) [(1,.dead)]) (FV.close (ids:=[1]) (Am:=[(.p (.sl 2 [(aD ([115,117,109]:List UInt8)),(aD (Lib.itoa (bI Ak)))]))]) (eG ([([115,117,109]:List UInt8),(Lib.itoa (bI Ak))]:List (List UInt8)) h8 h9) (by kernel_rfl)) (gc k7 (gc k6 (gc C5.code (gc k5 (gc k4 (gt (FC Tp 118 [(.own 18)] [(18,(.row 9 3 [(aD ([107,108,105,115,116,101,114]:List UInt8)),(aD ([116,97,114,103,101,116,115]:List UInt8)),(aD (Lib.itoa (R.length:Int)))]))] 19 (.p (aD (lnM ([([107,108,105,115,116,101,114]:List UInt8),([116,97,114,103,101,116,115]:List UInt8),(Lib.itoa (R.length:Int))]:List (List UInt8))))) [(18,.dead)]) (FV.close (ids:=[18]) (Am:=[(.p (.sl 3 [(aD ([107,108,105,115,116,101,114]:List UInt8)),(aD ([116,97,114,103,101,116,115]:List UInt8)),(aD (Lib.itoa (R.length:Int)))]))]) (eG ([([107,108,105,115,116,101,114]:List UInt8),([116,97,114,103,101,116,115]:List UInt8),(Lib.itoa (R.length:Int))]:List (List UInt8)) h3 h4) (by kernel_rfl)) (gc k3 (gc bQq (gc k2 (gc (bK h0) (gc k1 gn)))))))))))))
theorem bUx(h6:65536<Ak.length)(h7:inR 0)(h8:([([115,117,109]:List UInt8),(Lib.itoa 0)]:List (List UInt8)).length≤1000000)(h9:(Lib.join ([([115,117,109]:List UInt8),(Lib.itoa 0)]:List (List UInt8)) [32]).length≤1000000)(A5:Ak.length+(lnM ([([115,117,109]:List UInt8),(Lib.itoa 0)]:List (List UInt8))).length≤4611686018427387904):FV Tp 28 [(.p (.agg [(aB k),(.sl R.length (R.map aN))]))] base (.tup [(.p (aD (Ak++(lnM ([([115,117,109]:List UInt8),(Lib.itoa 0)]:List (List UInt8)))))),(pI 0)]) []:=by
 subst C3;have k1:=fk 1 (iM 2 R) rfl;have k2:=fk 1 (kE) rfl;have k3:=fk 10 (dG (R.length:Int) h2) rfl;have k4:=fk 19 (fE 2) rfl;have k5:=fk 19 (eQ) rfl;have k6:=fk 1 (qB Ak h6) rfl;have k7:=fk 1 (dG 0 h7) rfl;exact FV.fi func28 [k1.o,bF,k2.o,k3.o,.c (.p (aD (lnM ([([107,108,105,115,116,101,114]:List UInt8),([116,97,114,103,101,116,115]:List UInt8),(Lib.itoa (R.length:Int))]:List (List UInt8))))) [(18,.dead)],k4.o,k5.o,.k 4 (gI ax [19]) (.exit 0) (cL 2 R Aq Ak),k6.o,k7.o,.c (.p (aD (lnM ([([115,117,109]:List UInt8),(Lib.itoa 0)]:List (List UInt8))))) [(1,.dead)]] (gc A5 (gt (FC Tp 118 [(.own 1)] [(1,(.row 9 2 [(aD ([115,117,109]:List UInt8)),(aD (Lib.itoa 0))]))] 2 (.p (aD (lnM ([([115,117,109]:List UInt8),(Lib.itoa 0)]:List (List UInt8))))) [(1,.dead)]) (FV.close (ids:=[1]) (Am:=[(.p (.sl 2 [(aD ([115,117,109]:List UInt8)),(aD (Lib.itoa 0))]))]) (eG ([([115,117,109]:List UInt8),(Lib.itoa 0)]:List (List UInt8)) h8 h9) (by kernel_rfl)) (gc k7 (gc k6 (gc C5.code (gc k5 (gc k4 (gt (FC Tp 118 [(.own 18)] [(18,(.row 9 3 [(aD ([107,108,105,115,116,101,114]:List UInt8)),(aD ([116,97,114,103,101,116,115]:List UInt8)),(aD (Lib.itoa (R.length:Int)))]))] 19 (.p (aD (lnM ([([107,108,105,115,116,101,114]:List UInt8),([116,97,114,103,101,116,115]:List UInt8),(Lib.itoa (R.length:Int))]:List (List UInt8))))) [(18,.dead)]) (FV.close (ids:=[18]) (Am:=[(.p (.sl 3 [(aD ([107,108,105,115,116,101,114]:List UInt8)),(aD ([116,97,114,103,101,116,115]:List UInt8)),(aD (Lib.itoa (R.length:Int)))]))]) (eG ([([107,108,105,115,116,101,114]:List UInt8),([116,97,114,103,101,116,115]:List UInt8),(Lib.itoa (R.length:Int))]:List (List UInt8)) h3 h4) (by kernel_rfl)) (gc k3 (gc bQq (gc k2 (gc (bK h0) (gc k1 gn)))))))))))))
end
section
variable{R:List (List Cel)}{Ak:List UInt8}(h0:(dW k R)=0)(C3:k=3)(h2:inR (R.length:Int))(h3:([([107,108,105,115,116,101,114]:List UInt8),([106,117,100,103,101,109,101,110,116,115]:List UInt8),(Lib.itoa (R.length:Int))]:List (List UInt8)).length≤1000000)(h4:(Lib.join ([([107,108,105,115,116,101,114]:List UInt8),([106,117,100,103,101,109,101,110,116,115]:List UInt8),(Lib.itoa (R.length:Int))]:List (List UInt8)) [32]).length≤1000000)(C5:aF Tp 0 oV (cL k R 0 (lnM ([([107,108,105,115,116,101,114]:List UInt8),([106,117,100,103,101,109,101,110,116,115]:List UInt8),(Lib.itoa (R.length:Int))]:List (List UInt8)))) (.exit 0) (cL k R Aq Ak))
include h0 C3 h2 h3 h4 C5
theorem bUy(h6:Ak.length≤65536)(h7:inR (bI Ak))(h8:([([115,117,109]:List UInt8),(Lib.itoa (bI Ak))]:List (List UInt8)).length≤1000000)(h9:(Lib.join ([([115,117,109]:List UInt8),(Lib.itoa (bI Ak))]:List (List UInt8)) [32]).length≤1000000)(A5:Ak.length+(lnM ([([115,117,109]:List UInt8),(Lib.itoa (bI Ak))]:List (List UInt8))).length≤4611686018427387904):FV Tp 28 [(.p (.agg [(aB k),(.sl R.length (R.map aN))]))] base (.tup [(.p (aD (Ak++(lnM ([([115,117,109]:List UInt8),(Lib.itoa (bI Ak))]:List (List UInt8)))))),(pI 0)]) []:=by
 subst C3;have k1:=fk 1 (iM 3 R) rfl;have k2:=fk 1 (kE) rfl;have k3:=fk 10 (dG (R.length:Int) h2) rfl;have k4:=fk 19 (fE 3) rfl;have k5:=fk 19 (eQ) rfl;have k6:=fk 1 (jP Ak h6) rfl;have k7:=fk 1 (dG (bI Ak) h7) rfl;exact FV.fi func28 [k1.o,bF,k2.o,k3.o,.c (.p (aD (lnM ([([107,108,105,115,116,101,114]:List UInt8),([106,117,100,103,101,109,101,110,116,115]:List UInt8),(Lib.itoa (R.length:Int))]:List (List UInt8))))) [(18,.dead)],k4.o,k5.o,.k 4 (gI ax [19]) (.exit 0) (cL 3 R Aq Ak),k6.o,k7.o,.c (.p (aD (lnM ([([115,117,109]:List UInt8),(Lib.itoa (bI Ak))]:List (List UInt8))))) [(1,.dead)]] (gc A5 (gt (FC Tp 118 [(.own 1)] [(1,(.row 9 2 [(aD ([115,117,109]:List UInt8)),(aD (Lib.itoa (bI Ak)))]))] 2 (.p (aD (lnM ([([115,117,109]:List UInt8),(Lib.itoa (bI Ak))]:List (List UInt8))))) [(1,.dead)]) (FV.close (ids:=[1]) (Am:=[(.p (.sl 2 [(aD ([115,117,109]:List UInt8)),(aD (Lib.itoa (bI Ak)))]))]) (eG ([([115,117,109]:List UInt8),(Lib.itoa (bI Ak))]:List (List UInt8)) h8 h9) (by kernel_rfl)) (gc k7 (gc k6 (gc C5.code (gc k5 (gc k4 (gt (FC Tp 118 [(.own 18)] [(18,(.row 9 3 [(aD ([107,108,105,115,116,101,114]:List UInt8)),(aD ([106,117,100,103,101,109,101,110,116,115]:List UInt8)),(aD (Lib.itoa (R.length:Int)))]))] 19 (.p (aD (lnM ([([107,108,105,115,116,101,114]:List UInt8),([106,117,100,103,101,109,101,110,116,115]:List UInt8),(Lib.itoa (R.length:Int))]:List (List UInt8))))) [(18,.dead)]) (FV.close (ids:=[18]) (Am:=[(.p (.sl 3 [(aD ([107,108,105,115,116,101,114]:List UInt8)),(aD ([106,117,100,103,101,109,101,110,116,115]:List UInt8)),(aD (Lib.itoa (R.length:Int)))]))]) (eG ([([107,108,105,115,116,101,114]:List UInt8),([106,117,100,103,101,109,101,110,116,115]:List UInt8),(Lib.itoa (R.length:Int))]:List (List UInt8)) h3 h4) (by kernel_rfl)) (gc k3 (gc bQr (gc k2 (gc (bK h0) (gc k1 gn)))))))))))))
theorem bUz(h6:65536<Ak.length)(h7:inR 0)(h8:([([115,117,109]:List UInt8),(Lib.itoa 0)]:List (List UInt8)).length≤1000000)(h9:(Lib.join ([([115,117,109]:List UInt8),(Lib.itoa 0)]:List (List UInt8)) [32]).length≤1000000)(A5:Ak.length+(lnM ([([115,117,109]:List UInt8),(Lib.itoa 0)]:List (List UInt8))).length≤4611686018427387904):FV Tp 28 [(.p (.agg [(aB k),(.sl R.length (R.map aN))]))] base (.tup [(.p (aD (Ak++(lnM ([([115,117,109]:List UInt8),(Lib.itoa 0)]:List (List UInt8)))))),(pI 0)]) []:=by
 subst C3;have k1:=fk 1 (iM 3 R) rfl;have k2:=fk 1 (kE) rfl;have k3:=fk 10 (dG (R.length:Int) h2) rfl;have k4:=fk 19 (fE 3) rfl;have k5:=fk 19 (eQ) rfl;have k6:=fk 1 (qB Ak h6) rfl;have k7:=fk 1 (dG 0 h7) rfl;exact FV.fi func28 [k1.o,bF,k2.o,k3.o,.c (.p (aD (lnM ([([107,108,105,115,116,101,114]:List UInt8),([106,117,100,103,101,109,101,110,116,115]:List UInt8),(Lib.itoa (R.length:Int))]:List (List UInt8))))) [(18,.dead)],k4.o,k5.o,.k 4 (gI ax [19]) (.exit 0) (cL 3 R Aq Ak),k6.o,k7.o,.c (.p (aD (lnM ([([115,117,109]:List UInt8),(Lib.itoa 0)]:List (List UInt8))))) [(1,.dead)]] (gc A5 (gt (FC Tp 118 [(.own 1)] [(1,(.row 9 2 [(aD ([115,117,109]:List UInt8)),(aD (Lib.itoa 0))]))] 2 (.p (aD (lnM ([([115,117,109]:List UInt8),(Lib.itoa 0)]:List (List UInt8))))) [(1,.dead)]) (FV.close (ids:=[1]) (Am:=[(.p (.sl 2 [(aD ([115,117,109]:List UInt8)),(aD (Lib.itoa 0))]))]) (eG ([([115,117,109]:List UInt8),(Lib.itoa 0)]:List (List UInt8)) h8 h9) (by kernel_rfl)) (gc k7 (gc k6 (gc C5.code (gc k5 (gc k4 (gt (FC Tp 118 [(.own 18)] [(18,(.row 9 3 [(aD ([107,108,105,115,116,101,114]:List UInt8)),(aD ([106,117,100,103,101,109,101,110,116,115]:List UInt8)),(aD (Lib.itoa (R.length:Int)))]))] 19 (.p (aD (lnM ([([107,108,105,115,116,101,114]:List UInt8),([106,117,100,103,101,109,101,110,116,115]:List UInt8),(Lib.itoa (R.length:Int))]:List (List UInt8))))) [(18,.dead)]) (FV.close (ids:=[18]) (Am:=[(.p (.sl 3 [(aD ([107,108,105,115,116,101,114]:List UInt8)),(aD ([106,117,100,103,101,109,101,110,116,115]:List UInt8)),(aD (Lib.itoa (R.length:Int)))]))]) (eG ([([107,108,105,115,116,101,114]:List UInt8),([106,117,100,103,101,109,101,110,116,115]:List UInt8),(Lib.itoa (R.length:Int))]:List (List UInt8)) h3 h4) (by kernel_rfl)) (gc k3 (gc bQr (gc k2 (gc (bK h0) (gc k1 gn)))))))))))))
end
section
variable{R:List (List Cel)}{Ak:List UInt8}(h0:(dW k R)=0)(C3:k=4)(h2:inR (R.length:Int))(h3:([([107,108,105,115,116,101,114]:List UInt8),([99,117,112,115]:List UInt8),(Lib.itoa (R.length:Int))]:List (List UInt8)).length≤1000000)(h4:(Lib.join ([([107,108,105,115,116,101,114]:List UInt8),([99,117,112,115]:List UInt8),(Lib.itoa (R.length:Int))]:List (List UInt8)) [32]).length≤1000000)(C5:aF Tp 0 oV (cL k R 0 (lnM ([([107,108,105,115,116,101,114]:List UInt8),([99,117,112,115]:List UInt8),(Lib.itoa (R.length:Int))]:List (List UInt8)))) (.exit 0) (cL k R Aq Ak))
include h0 C3 h2 h3 h4 C5
theorem bVa(h6:Ak.length≤65536)(h7:inR (bI Ak))(h8:([([115,117,109]:List UInt8),(Lib.itoa (bI Ak))]:List (List UInt8)).length≤1000000)(h9:(Lib.join ([([115,117,109]:List UInt8),(Lib.itoa (bI Ak))]:List (List UInt8)) [32]).length≤1000000)(A5:Ak.length+(lnM ([([115,117,109]:List UInt8),(Lib.itoa (bI Ak))]:List (List UInt8))).length≤4611686018427387904):FV Tp 28 [(.p (.agg [(aB k),(.sl R.length (R.map aN))]))] base (.tup [(.p (aD (Ak++(lnM ([([115,117,109]:List UInt8),(Lib.itoa (bI Ak))]:List (List UInt8)))))),(pI 0)]) []:=by
 subst C3;have k1:=fk 1 (iM 4 R) rfl;have k2:=fk 1 (kE) rfl;have k3:=fk 10 (dG (R.length:Int) h2) rfl;have k4:=fk 19 (fE 4) rfl;have k5:=fk 19 (eQ) rfl;have k6:=fk 1 (jP Ak h6) rfl;have k7:=fk 1 (dG (bI Ak) h7) rfl;exact FV.fi func28 [k1.o,bF,k2.o,k3.o,.c (.p (aD (lnM ([([107,108,105,115,116,101,114]:List UInt8),([99,117,112,115]:List UInt8),(Lib.itoa (R.length:Int))]:List (List UInt8))))) [(18,.dead)],k4.o,k5.o,.k 4 (gI ax [19]) (.exit 0) (cL 4 R Aq Ak),k6.o,k7.o,.c (.p (aD (lnM ([([115,117,109]:List UInt8),(Lib.itoa (bI Ak))]:List (List UInt8))))) [(1,.dead)]] (gc A5 (gt (FC Tp 118 [(.own 1)] [(1,(.row 9 2 [(aD ([115,117,109]:List UInt8)),(aD (Lib.itoa (bI Ak)))]))] 2 (.p (aD (lnM ([([115,117,109]:List UInt8),(Lib.itoa (bI Ak))]:List (List UInt8))))) [(1,.dead)]) (FV.close (ids:=[1]) (Am:=[(.p (.sl 2 [(aD ([115,117,109]:List UInt8)),(aD (Lib.itoa (bI Ak)))]))]) (eG ([([115,117,109]:List UInt8),(Lib.itoa (bI Ak))]:List (List UInt8)) h8 h9) (by kernel_rfl)) (gc k7 (gc k6 (gc C5.code (gc k5 (gc k4 (gt (FC Tp 118 [(.own 18)] [(18,(.row 9 3 [(aD ([107,108,105,115,116,101,114]:List UInt8)),(aD ([99,117,112,115]:List UInt8)),(aD (Lib.itoa (R.length:Int)))]))] 19 (.p (aD (lnM ([([107,108,105,115,116,101,114]:List UInt8),([99,117,112,115]:List UInt8),(Lib.itoa (R.length:Int))]:List (List UInt8))))) [(18,.dead)]) (FV.close (ids:=[18]) (Am:=[(.p (.sl 3 [(aD ([107,108,105,115,116,101,114]:List UInt8)),(aD ([99,117,112,115]:List UInt8)),(aD (Lib.itoa (R.length:Int)))]))]) (eG ([([107,108,105,115,116,101,114]:List UInt8),([99,117,112,115]:List UInt8),(Lib.itoa (R.length:Int))]:List (List UInt8)) h3 h4) (by kernel_rfl)) (gc k3 (gc bQs (gc k2 (gc (bK h0) (gc k1 gn)))))))))))))
theorem bMe(h6:65536<Ak.length)(h7:inR 0)(h8:([([115,117,109]:List UInt8),(Lib.itoa 0)]:List (List UInt8)).length≤1000000)(h9:(Lib.join ([([115,117,109]:List UInt8),(Lib.itoa 0)]:List (List UInt8)) [32]).length≤1000000)(A5:Ak.length+(lnM ([([115,117,109]:List UInt8),(Lib.itoa 0)]:List (List UInt8))).length≤4611686018427387904):FV Tp 28 [(.p (.agg [(aB k),(.sl R.length (R.map aN))]))] base (.tup [(.p (aD (Ak++(lnM ([([115,117,109]:List UInt8),(Lib.itoa 0)]:List (List UInt8)))))),(pI 0)]) []:=by
 subst C3;have k1:=fk 1 (iM 4 R) rfl;have k2:=fk 1 (kE) rfl;have k3:=fk 10 (dG (R.length:Int) h2) rfl;have k4:=fk 19 (fE 4) rfl;have k5:=fk 19 (eQ) rfl;have k6:=fk 1 (qB Ak h6) rfl;have k7:=fk 1 (dG 0 h7) rfl;exact FV.fi func28 [k1.o,bF,k2.o,k3.o,.c (.p (aD (lnM ([([107,108,105,115,116,101,114]:List UInt8),([99,117,112,115]:List UInt8),(Lib.itoa (R.length:Int))]:List (List UInt8))))) [(18,.dead)],k4.o,k5.o,.k 4 (gI ax [19]) (.exit 0) (cL 4 R Aq Ak),k6.o,k7.o,.c (.p (aD (lnM ([([115,117,109]:List UInt8),(Lib.itoa 0)]:List (List UInt8))))) [(1,.dead)]] (gc A5 (gt (FC Tp 118 [(.own 1)] [(1,(.row 9 2 [(aD ([115,117,109]:List UInt8)),(aD (Lib.itoa 0))]))] 2 (.p (aD (lnM ([([115,117,109]:List UInt8),(Lib.itoa 0)]:List (List UInt8))))) [(1,.dead)]) (FV.close (ids:=[1]) (Am:=[(.p (.sl 2 [(aD ([115,117,109]:List UInt8)),(aD (Lib.itoa 0))]))]) (eG ([([115,117,109]:List UInt8),(Lib.itoa 0)]:List (List UInt8)) h8 h9) (by kernel_rfl)) (gc k7 (gc k6 (gc C5.code (gc k5 (gc k4 (gt (FC Tp 118 [(.own 18)] [(18,(.row 9 3 [(aD ([107,108,105,115,116,101,114]:List UInt8)),(aD ([99,117,112,115]:List UInt8)),(aD (Lib.itoa (R.length:Int)))]))] 19 (.p (aD (lnM ([([107,108,105,115,116,101,114]:List UInt8),([99,117,112,115]:List UInt8),(Lib.itoa (R.length:Int))]:List (List UInt8))))) [(18,.dead)]) (FV.close (ids:=[18]) (Am:=[(.p (.sl 3 [(aD ([107,108,105,115,116,101,114]:List UInt8)),(aD ([99,117,112,115]:List UInt8)),(aD (Lib.itoa (R.length:Int)))]))]) (eG ([([107,108,105,115,116,101,114]:List UInt8),([99,117,112,115]:List UInt8),(Lib.itoa (R.length:Int))]:List (List UInt8)) h3 h4) (by kernel_rfl)) (gc k3 (gc bQs (gc k2 (gc (bK h0) (gc k1 gn)))))))))))))
end
def gB(k:Int)(R:List (List Cel))(i:Nat)(o:List UInt8)(Ab:List Cel)(j fn:Nat)(fc:List PV):St:=⟨fr 81 [(2,(.p (aD ([]:List UInt8)))),(3,(pI 0)),(5,(.p (aD o))),(6,(.p (bM (aJ k)))),(8,(.ptr 0 0)),(10,(.p (.sl Ab.length ((Ab.map cE).flatten)))),(11,(.own 1)),(38,(.p (.sl R.length (R.map aN)))),(39,(pI (R.length:Int))),(40,(pI (i:Int))),(41,(pB (decide ((i:Int)<(R.length:Int))))),(42,(.rp (R.map aN) (i*1))),(43,(.p (.sl Ab.length ((Ab.map cE).flatten)))),(44,(.p (bM (aJ k)))),(45,(pI ((aJ k).length:Int))),(46,(pI (j:Int)))],[some (.box 214 [(.fn 224 [] [(.rp [(PV.fn 188 [] [])] 0)]),(.fn 225 [] [(.rp [(PV.fn 120 [] [])] 0)]),(.fn 226 [] [(.rp [(aB 999999)] 0)]),(.fn 224 [] [(.rp [(PV.fn 39 [] [])] 0)]),(.fn 225 [] [(.rp [(PV.fn 189 [] [])] 0)]),(.fn 226 [] [(.rp [(aB 360000)] 0)]),(.fn 227 [] [(.rp [(PV.fn 191 [] [])] 0)]),(.fn 228 [] []),(.fn 229 [] [(.rp [(PV.fn 191 [] [])] 0)]),(.fn 227 [] [(.rp [(PV.fn 192 [] [])] 0)]),(.fn 228 [] []),(.fn 229 [] [(.rp [(PV.fn 192 [] [])] 0)])]),some (.row 9 fn fc)]⟩
theorem aYa{R:List (List Cel)}{o:List UInt8}{Ab:List Cel}{Kl:Nat}{Ce:List (List UInt8)}{i':Nat}{o':List UInt8}(h0:(i:Int)<(R.length:Int))(h1:R[i]? = some Ab)(Bp:aF Tp 0 aDz (gB k R i o Ab 0 0 []) (.exit 2) (gB k R i o Ab Kl Ce.length ((Ce.map stE).flatten)))(h3:Ce.length≤1000000)(h4:(Lib.join Ce [32]).length≤1000000)(h5:o.length+(lnM Ce).length≤4611686018427387904)(h6:cn i)(Aj:i'=(i+1))(M4:o'=(o++(lnM Ce))):aA Tp 0 oV (cL k R i o) .normal (cL k R i' o'):=by
 subst Aj M4;exact aA.fi (gI ax [0]) [bT,.x (.sl Ab.length ((Ab.map cE).flatten)),Bp.k 6 (gN ar [0,1] [(11,9)]),.c (.p (aD (lnM Ce))) [(1,.dead)]] (gc h6 (gc h5 (gt (FC Tp 118 [(.own 1)] [(1,(.row 9 Ce.length ((Ce.map stE).flatten)))] 2 (.p (aD (lnM Ce))) [(1,.dead)]) (FV.close (ids:=[1]) (Am:=[(.p (.sl Ce.length ((Ce.map stE).flatten)))]) (eG Ce h3 h4) (by kernel_rfl)) (gc Bp.code (gc (atm aN h1) (gc (ixn aN h1) (g0 h0)))))))
theorem aYb{R:List (List Cel)}{o:List UInt8}(h0:(R.length:Int)≤(i:Int)):aA Tp 0 oV (cL k R i o) (.exit 0) (cL k R i o):=aA.fi (gI ax [0]) [bF] (gc (bL h0) gn)
section
variable(h0:(j:Int)<((aJ k).length:Int))
include h0
theorem aYc{R:List (List Cel)}{o:List UInt8}{Ab:List Cel}{f:List (List UInt8)}{Bj:List UInt8}{f':List (List UInt8)}(h1:(aJ k)[j]? = some 0)(h2:Ab[j]? = some (Bm,Bj))(h3:inR Bm)(h4:[(aD (wrM 0 (Bm,Bj)))].length=1*1∧f.length+1≤1000000)(h5:cn j)(Bw:j'=(j+1))(Fv:f'.length=(f.length+1))(Fw:(f'.map stE).flatten=(((f.map stE).flatten)++[(aD (wrM 0 (Bm,Bj)))])):aA Tp 0 aDz (gB k R i o Ab j f.length ((f.map stE).flatten)) .normal (gB k R i o Ab j' f'.length ((f'.map stE).flatten)):=by
 subst Bw;have k1:=fk 2 (bXb Bm Bj h3) rfl;rw [Fv,Fw];exact aA.fi (gI ar [0,11]) [bT,.x (aB 0),.x (.agg [(aB Bm),(aD Bj)]),k1.o] (gc h5 (gc h4 (gc k1 (gc (bG (E:=cE) (i:=j) (k:=2) (fun _=>rfl) h2 rfl) (gc (cG (E:=cE) (i:=j) (k:=2) (fun _=>rfl) h2) (gc (bC (E:=cE) (k:=2) (i:=(j:Int)) (fun _=>rfl) (by decide) (Bu _) h2) (gt (0≤(0:Int)∧(0:Int)<4) (by first | decide | simp) (gc (atm aB h1) (gc (ixn aB h1) (g0 h0))))))))))
theorem aYd{R:List (List Cel)}{o:List UInt8}{Ab:List Cel}{f:List (List UInt8)}{Bj:List UInt8}{f':List (List UInt8)}(h1:(aJ k)[j]? = some 1)(h2:Ab[j]? = some (Bm,Bj))(h3:[(aD (wrM 1 (Bm,Bj)))].length=1*1∧f.length+1≤1000000)(h4:cn j)(Bw:j'=(j+1))(Fv:f'.length=(f.length+1))(Fw:(f'.map stE).flatten=(((f.map stE).flatten)++[(aD (wrM 1 (Bm,Bj)))])):aA Tp 0 aDz (gB k R i o Ab j f.length ((f.map stE).flatten)) .normal (gB k R i o Ab j' f'.length ((f'.map stE).flatten)):=by
 subst Bw;have k1:=fk 2 (bXc Bm Bj) rfl;rw [Fv,Fw];exact aA.fi (gI ar [0,11]) [bT,.x (aB 1),.x (.agg [(aB Bm),(aD Bj)]),k1.o] (gc h4 (gc h3 (gc k1 (gc (bG (E:=cE) (i:=j) (k:=2) (fun _=>rfl) h2 rfl) (gc (cG (E:=cE) (i:=j) (k:=2) (fun _=>rfl) h2) (gc (bC (E:=cE) (k:=2) (i:=(j:Int)) (fun _=>rfl) (by decide) (Bu _) h2) (gt (0≤(1:Int)∧(1:Int)<4) (by first | decide | simp) (gc (atm aB h1) (gc (ixn aB h1) (g0 h0))))))))))
theorem aYe{R:List (List Cel)}{o:List UInt8}{Ab:List Cel}{f:List (List UInt8)}{Bj:List UInt8}{f':List (List UInt8)}(h1:(aJ k)[j]? = some 2)(h2:Ab[j]? = some (Bm,Bj))(h3:[(aD (wrM 2 (Bm,Bj)))].length=1*1∧f.length+1≤1000000)(h4:cn j)(Bw:j'=(j+1))(Fv:f'.length=(f.length+1))(Fw:(f'.map stE).flatten=(((f.map stE).flatten)++[(aD (wrM 2 (Bm,Bj)))])):aA Tp 0 aDz (gB k R i o Ab j f.length ((f.map stE).flatten)) .normal (gB k R i o Ab j' f'.length ((f'.map stE).flatten)):=by
 subst Bw;have k1:=fk 2 (bGy Bm Bj) rfl;rw [Fv,Fw];exact aA.fi (gI ar [0,11]) [bT,.x (aB 2),.x (.agg [(aB Bm),(aD Bj)]),k1.o] (gc h4 (gc h3 (gc k1 (gc (bG (E:=cE) (i:=j) (k:=2) (fun _=>rfl) h2 rfl) (gc (cG (E:=cE) (i:=j) (k:=2) (fun _=>rfl) h2) (gc (bC (E:=cE) (k:=2) (i:=(j:Int)) (fun _=>rfl) (by decide) (Bu _) h2) (gt (0≤(2:Int)∧(2:Int)<4) (by first | decide | simp) (gc (atm aB h1) (gc (ixn aB h1) (g0 h0))))))))))
theorem aYf{R:List (List Cel)}{o:List UInt8}{Ab:List Cel}{f:List (List UInt8)}{Bj:List UInt8}{f':List (List UInt8)}(h1:(aJ k)[j]? = some 3)(h2:Ab[j]? = some (Bm,Bj))(h3:[(aD (wrM 2 (Bm,Bj)))].length=1*1∧f.length+1≤1000000)(h4:cn j)(Bw:j'=(j+1))(Fv:f'.length=(f.length+1))(Fw:(f'.map stE).flatten=(((f.map stE).flatten)++[(aD (wrM 2 (Bm,Bj)))])):aA Tp 0 aDz (gB k R i o Ab j f.length ((f.map stE).flatten)) .normal (gB k R i o Ab j' f'.length ((f'.map stE).flatten)):=by
 subst Bw;have k1:=fk 2 (bGy Bm Bj) rfl;rw [Fv,Fw];exact aA.fi (gI ar [0,11]) [bT,.x (aB 3),.x (.agg [(aB Bm),(aD Bj)]),k1.o] (gc h4 (gc h3 (gc k1 (gc (bG (E:=cE) (i:=j) (k:=2) (fun _=>rfl) h2 rfl) (gc (cG (E:=cE) (i:=j) (k:=2) (fun _=>rfl) h2) (gc (bC (E:=cE) (k:=2) (i:=(j:Int)) (fun _=>rfl) (by decide) (Bu _) h2) (gt (0≤(3:Int)∧(3:Int)<4) (by first | decide | simp) (gc (atm aB h1) (gc (ixn aB h1) (g0 h0))))))))))
end
theorem aYg{R:List (List Cel)}{o:List UInt8}{Ab:List Cel}{f:List (List UInt8)}(h0:((aJ k).length:Int)≤(j:Int)):aA Tp 0 aDz (gB k R i o Ab j f.length ((f.map stE).flatten)) (.exit 2) (gB k R i o Ab j f.length ((f.map stE).flatten)):=aA.fi (gI ar [0,1]) [bF] (gc (bL h0) gn)
end
end KV
end Go.Proofs
section
namespace Go.Proofs
open Go.RowKit
namespace KV
open Tryz
def fQ(k:Int)(x:List Cel):List (List UInt8):=List.zipWith wrM (aJ k) x
def iT(k:Int):List UInt8:=if k=0 then [115,116,97,114,116,115] else if k=1 then [112,97,115,115,101,115] else if k=2 then [116,97,114,103,101,116,115] else if k=3 then [106,117,100,103,101,109,101,110,116,115] else [99,117,112,115]
def lX(k:Int)(n:Nat):List UInt8:=lnM [[107,108,105,115,116,101,114],iT k,Lib.itoa (n:Int)]
def dX(k:Int)(R:List (List Cel)):List UInt8:=R.foldl (fun o x=>o++lnM (fQ k x)) (lX k R.length)
def lE(b:List UInt8):Int:=if b.length≤65536 then bI b else 0
def bE(k:Int)(R:List (List Cel)):List UInt8 × Int:=if dW k R≠0 then ([],dW k R) else (dX k R++lnM [[115,117,109],Lib.itoa (lE (dX k R))],0)
theorem bMd(t:Int)(c:Cel):ckM t c=0∨ckM t c=3∨ckM t c=11:=by
 unfold ckM
 repeat' split
 all_goals simp
theorem aGn{a:Int}{z:List UInt8}(h:ckM 0 (a,z)=0):0≤a∧a≤999999:=by
 by_cases q:within a 0 999999=true
 ·exact cK.1 q
 ·have e:ckM 0 (a,z)=3:=by simp [ckM,q]
  rw [e] at h;exact absurd h (by decide)
theorem aOl{a:Int}{z:List UInt8}(h:ckM 1 (a,z)=0):0≤a∧a≤360000:=by
 by_cases q:within a 0 360000=true
 ·exact cK.1 q
 ·have e:ckM 1 (a,z)=3:=by simp [ckM,q]
  rw [e] at h;exact absurd h (by decide)
theorem aOm{a:Int}{z:List UInt8}(h:ckM 2 (a,z)=0):mH z=true∧z.length≤8:=by
 by_cases q:mH z=true
 ·refine ⟨q,?_⟩
  unfold mH at q
  rw [Bv] at q
  have:=cK.1 q.1;omega
 ·have e:ckM 2 (a,z)=11:=by simp [ckM,q]
  rw [e] at h;exact absurd h (by decide)
theorem aOn{a:Int}{z:List UInt8}(h:ckM 3 (a,z)=0):mI z=true∧z.length≤12:=by
 by_cases q:mI z=true
 ·refine ⟨q,?_⟩
  unfold mI at q
  rw [Bv] at q
  have:=cK.1 q.1;omega
 ·have e:ckM 3 (a,z)=11:=by simp [ckM,q]
  rw [e] at h;exact absurd h (by decide)
theorem bUn{a:Int}(h:0≤a∧a≤360000):(ptM a).1.length≤66:=by
 have h1:a.tdiv 10=a / 10:=Int.tdiv_eq_ediv_of_nonneg h.1;have h2:a.tdiv 600=a / 600:=Int.tdiv_eq_ediv_of_nonneg h.1;have h3:a.tmod 10=a % 10:=Int.tmod_eq_emod_of_nonneg h.1;have h4:(a.tdiv 10).tmod 60=a.tdiv 10 % 60:=Int.tmod_eq_emod_of_nonneg (by omega)
 have l1:=itl (n:=a.tdiv 600) (by omega)
 have l2:=itl (n:=a.tmod 10) (by omega)
 have l3:=itl (n:=100+(a.tdiv 10).tmod 60) (by omega)
 unfold ptM;rw [if_pos (cK.2 h)];simp only [B4,xV,eY,List.length_nil];omega
theorem bUo{t:Int}{c:Cel}(ht:t=0∨t=1∨t=2∨t=3)(h:ckM t c=0):(wrM t c).length≤66:=by
 obtain ⟨a,z⟩:=c
 rcases ht with rfl | rfl | rfl | rfl
 ·have:=aGn h
  have:=itl (n:=a) (by omega)
  show (Lib.itoa a).length≤66;omega
 ·exact bUn (aOl h)
 ·have:=(aOm h).2
  show z.length≤66;omega
 ·have:=(aOn h).2
  show z.length≤66;omega
structure aAm (k:Int) (R:List (List Cel)):Prop where
 n:R.length≤200
 w:within k 0 4=true
 len:∀ x∈R,x.length=(aJ k).length
 ck:∀ x∈R,∀ (j:Nat) t c,(aJ k)[j]? = some t→x[j]? = some c→ckM t c=0
theorem aAn{k:Int}{R:List (List Cel)}(h:dW k R=0):aAm k R:=by
 unfold dW at h
 split at h
 ·cases h
 ·rename_i hk
  split at h
  ·cases h
  ·rename_i hn
   have hl:R.length≤200:=by
    apply Classical.byContradiction;intro q;exact hn (.inl (by omega))
   have hne:R.all Dv=true:=by
    cases e:R.all Dv
    ·exact absurd (.inr e) hn
    ·rfl
   split at h
   ·rename_i hc;exact absurd h hc
   ·rename_i hc
    have hc:lF k R=0:=by
     apply Classical.byContradiction;exact hc
    have hf:=aRz (k:=k) (R:=R) (by rw [hc];decide)
    have G4:=hf;rw [hZ] at hf hne
    refine ⟨hl,by simpa using hk,fun x hx=>aRy (hne x hx) (hf x hx),fun x hx j t c h1 h2 => ?_⟩
    unfold lF at hc
    rw [if_neg (by rw [G4];simp)] at hc
    split at hc
    ·cases hc
    ·rename_i q3
     split at hc
     ·cases hc
     ·rename_i Py
      have hm:(aKj k x)[j]? = some (ckM t c):=by
       unfold aKj;rw [List.getElem?_zipWith,h1,h2]
      have key:∀ e,¬ (R.any (aAs k e)=true)→ckM t c≠e:=fun e q he=>q (List.any_eq_true.2 ⟨x,hx,List.any_eq_true.2 ⟨_,Cj hm,by simpa using he⟩⟩)
      rcases bMd t c with e | e | e
      ·exact e
      ·exact absurd e (key 3 q3)
      ·exact absurd e (key 11 Py)
theorem gP(a b:List UInt8)(r:List (List UInt8))(sep:List UInt8):Lib.join (a::b::r) sep=a++sep++Lib.join (b::r) sep:=by
 simp [Lib.join,List.intercalate]
theorem nJ(B:Nat):∀ (l:List (List UInt8)),(∀ s∈l,s.length≤B)→(Lib.join l [32]).length≤l.length*(B+1)
 | [],_=>by simp [Lib.join,List.intercalate]
 | [a],h=>by
  have:=h a (by simp)
  simp [Lib.join,List.intercalate];omega
 | a::b::r,h=>by
  have h1:=h a (by simp)
  have h2:=nJ B (b::r) (fun s hs=>h s (by simp at hs ⊢;exact .inr hs))
  rw [gP,B4,B4,eY (a:=a),Nat.succ_mul];simp only [eY,List.length_nil] at h2 ⊢
  omega
theorem jW(k:Int):(aJ k).length≤4:=by
 unfold aJ;repeat' split
 all_goals simp
theorem aRw{k:Int}{x:List Cel}{s:List UInt8}(h:s∈fQ k x):∃ (j:Nat) (t:Int) (c:Cel),(aJ k)[j]? = some t∧x[j]? = some c∧s=wrM t c:=by
 obtain ⟨j,hj,e⟩:=List.mem_iff_getElem.1 h;have:(fQ k x)[j]? = some s:=by rw [B3 hj,e]
 unfold fQ at this
 rw [List.getElem?_zipWith] at this
 cases h1:(aJ k)[j]? with
 | none=>rw [h1] at this;simp at this
 | some t =>
  cases h2:x[j]? with
  | none=>rw [h1,h2] at this;simp at this
  | some c=>rw [h1,h2] at this;exact ⟨j,t,c,h1,h2,by simpa using this.symm⟩
theorem aKe{k:Int}{R:List (List Cel)}(hR:aAm k R){x:List Cel}(hx:x∈R):(fQ k x).length≤4∧(Lib.join (fQ k x) [32]).length≤268:=by
 have hl:(fQ k x).length≤4:=by
  have:=jW k;unfold fQ;rw [List.length_zipWith];omega
 have:=nJ 66 (fQ k x) (fun s hs=>by
  obtain ⟨j,t,c,h1,h2,rfl⟩:=aRw hs;exact bUo (iP h1) (hR.ck x hx j t c h1 h2))
 refine ⟨hl,iL this ?_⟩;omega
theorem aDy:∀ (l:List (Int × Cel)) (f:List (List UInt8)),l.foldl (fun f p=>f++[wrM p.1 p.2]) f=f++l.map (fun p=>wrM p.1 p.2)
 | [],f=>by simp
 | p::l,f=>by rw [bLl,aDy l,eZ];simp
theorem bGn(k:Int)(x:List Cel):((aJ k).zip x).map (fun p=>wrM p.1 p.2)=fQ k x:=by
 unfold fQ;rw [List.zip,List.map_zipWith]
theorem bUp{l:List Int}{x:List Cel}{j:Nat}{p:Int × Cel}(h:(l.zip x)[j]? = some p):l[j]? = some p.1∧x[j]? = some p.2:=by
 rw [List.zip,List.getElem?_zipWith] at h
 cases h1:l[j]? with
 | none=>rw [h1] at h;simp at h
 | some t =>
  cases h2:x[j]? with
  | none=>rw [h1,h2] at h;simp at h
  | some c=>rw [h1,h2] at h;simp at h;subst h;exact ⟨rfl,rfl⟩
theorem aOo{k:Int}{R:List (List Cel)}(hR:aAm k R){x:List Cel}(hx:x∈R)(i:Nat)(o:List UInt8) :
  aF Tp 0 (sub (cd Tryz.f28) am) (gB k R i o x 0 0 []) (.exit 2) (gB k R i o x (aJ k).length (fQ k x).length (((fQ k x).map stE).flatten)):=by
 have hc:=jW k;have hl:((aJ k).zip x).length=(aJ k).length:=by rw [List.length_zip,hR.len x hx,Nat.min_self]
 have:=aF.range (P:=Tp) (k:=0) (b:=(sub (cd Tryz.f28) am)) (e := .exit 2) (fun j (f:List (List UInt8))=>gB k R i o x j f.length ((f.map stE).flatten)) (fun f=>gB k R i o x (aJ k).length f.length ((f.map stE).flatten)) (fun f p=>f++[wrM p.1 p.2]) (fun j f=>f.length=j) (by simp) ((aJ k).zip x) (a0:=[]) rfl
  (fun j p f hp hf=>by
   have hj:=bN hp;obtain ⟨h1,h2⟩:=bUp hp;obtain ⟨t,a,z⟩:=p;have hk:=hR.ck x hx j t (a,z) h1 h2;refine ⟨by simp [hf],?_⟩
   rcases iP h1 with e | e | e | e
   ·simp only at e h1 h2;subst e
    have hb:=aGn hk;exact aYc (by omega) h1 h2 (by show _∧_;omega) ⟨rfl,by omega⟩ (aV (by omega)) rfl (by simp) (by simp [stE])
   ·simp only at e h1 h2;subst e
    exact aYd (by omega) h1 h2 ⟨rfl,by omega⟩ (aV (by omega)) rfl (by simp) (by simp [stE])
   ·simp only at e h1 h2;subst e
    exact aYe (by omega) h1 h2 ⟨rfl,by omega⟩ (aV (by omega)) rfl (by simp) (by simp [stE])
   ·simp only at e h1 h2;subst e
    exact aYf (by omega) h1 h2 ⟨rfl,by omega⟩ (aV (by omega)) rfl (by simp) (by simp [stE,wrM]))
  (fun f _=>by rw [hl];exact aYg (by omega))
 rw [aDy,List.nil_append,bGn] at this
 exact this
theorem aXz{k:Int}{R:List (List Cel)}(hR:aAm k R)(h:List UInt8)(hh:h.length≤1000) :
  aF Tp 0 (sub (cd Tryz.f28) [1,1,1,1,1,0,1,0,0]) (cL k R 0 h) (.exit 0) (cL k R R.length (R.foldl (fun o x=>o++lnM (fQ k x)) h)):=by
 have hn:=hR.n;exact aF.range (P:=Tp) (k:=0) (b:=(sub (cd Tryz.f28) [1,1,1,1,1,0,1,0,0])) (e := .exit 0) (fun i (o:List UInt8)=>cL k R i o) (fun o=>cL k R R.length o) (fun o x=>o++lnM (fQ k x)) (fun i o=>o.length≤1000+300*i) (by simp) R (a0:=h) (by omega)
  (fun i x o hx ho=>by
   have hi:=bN hx;have hm:=Cj hx;obtain ⟨q1,q2⟩:=aKe hR hm;have hln:(lnM (fQ k x)).length≤269:=by unfold lnM;rw [B4];simp;omega
   exact ⟨by rw [B4];omega,aYa (by omega) hx (aOo hR hm i o) (by omega) (by omega) (by omega) (aV (by omega)) rfl rfl⟩)
  (fun o _=>aYb (by omega))
theorem aAo{k:Int}{R:List (List Cel)}(hR:aAm k R):∀ (l:List (List Cel)) (h:List UInt8),(∀ x∈l,x∈R)→(l.foldl (fun o x=>o++lnM (fQ k x)) h).length≤h.length+300*l.length
 | [],h,_=>by simp
 | x::l,h,hx=>by
  obtain ⟨q1,q2⟩:=aKe hR (hx x (by simp))
  have hln:(lnM (fQ k x)).length≤269:=by unfold lnM;rw [B4];simp;omega
  have:=aAo hR l (h++lnM (fQ k x)) (fun y hy=>hx y (by simp [hy]))
  rw [B4] at this
  rw [bLl,eY];omega
theorem aRx(b:List UInt8):0≤bI b∧bI b<65521:=bHk b 0 (by omega)
theorem aAp(k:Int)(R:List (List Cel)){base:Nat}:FV Tp 28 [.p (.agg [aB k,cD R])] base (.tup [.p (aD (bE k R).1),.p (aB (bE k R).2)]) []:=by
 unfold bE
 by_cases hc:dW k R=0
 ·rw [if_neg (by simp [hc])]
  have hR:=aAn hc;have hn:=hR.n;have hi:=itl (n:=(R.length:Int)) (by omega)
  have hw:(iT k).length≤10:=by unfold iT;(repeat' split) <;> simp
  have hj:∀ w:List UInt8,w.length≤10→(Lib.join [[107,108,105,115,116,101,114],w,Lib.itoa (R.length:Int)] [32]).length≤100:=fun w hw=>by
   have:=nJ 30 [[107,108,105,115,116,101,114],w,Lib.itoa (R.length:Int)] (fun s hs=>by
    simp only [kD,List.not_mem_nil,or_false] at hs
    rcases hs with rfl | rfl | rfl
    ·simp
    ·omega
    ·omega)
   simp only [eY,List.length_nil] at this
   omega
  have hh:(lX k R.length).length≤1000:=by
   have:=hj (iT k) hw;unfold lX lnM;rw [B4];simp;omega
  have L:=aXz hR (lX k R.length) hh;have hb:=aAo hR R (lX k R.length) (fun x hx=>hx)
  have ev:dX k R=R.foldl (fun o x=>o++lnM (fQ k x)) (lX k R.length):=rfl
  rw [← ev] at L hb
  generalize dX k R=b at L hb ⊢
  have hsv:0≤lE b∧lE b<65521:=by
   unfold lE;split
   ·exact aRx b
   ·omega
  have hs:=itl (n:=lE b) (by omega)
  have hjs:(Lib.join [[115,117,109],Lib.itoa (lE b)] [32]).length≤100:=by
   have:=nJ 30 [[115,117,109],Lib.itoa (lE b)] (fun s hs=>by
    simp only [kD,List.not_mem_nil,or_false] at hs
    rcases hs with rfl | rfl
    ·simp
    ·omega)
   simp only [eY,List.length_nil] at this
   omega
  have hls:(lnM [[115,117,109],Lib.itoa (lE b)]).length≤101:=by unfold lnM;rw [B4];simp;omega
  have hk:=cK.1 hR.w;have Oq:k=0∨k=1∨k=2∨k=3∨k=4:=by omega
  have g1:inR (R.length:Int):=aV (by omega)
  have h3:∀ w:List UInt8,([[107,108,105,115,116,101,114],w,Lib.itoa (R.length:Int)]:List (List UInt8)).length≤1000000:=fun w=>by simp
  have h2:([[115,117,109],Lib.itoa (lE b)]:List (List UInt8)).length≤1000000:=by simp
  have gs:inR (lE b):=by unfold inR;omega
  by_cases h6:b.length≤65536
  ·have es:lE b=bI b:=by unfold lE;rw [if_pos h6]
   rw [es] at hjs hls h2 gs ⊢
   rcases Oq with rfl | rfl | rfl | rfl | rfl
   ·exact bUs hc rfl g1 (h3 _) (iL (hj _ (by simp)) (by omega)) L h6 gs h2 (by omega) (by omega)
   ·exact bUu hc rfl g1 (h3 _) (iL (hj _ (by simp)) (by omega)) L h6 gs h2 (by omega) (by omega)
   ·exact bUw hc rfl g1 (h3 _) (iL (hj _ (by simp)) (by omega)) L h6 gs h2 (by omega) (by omega)
   ·exact bUy hc rfl g1 (h3 _) (iL (hj _ (by simp)) (by omega)) L h6 gs h2 (by omega) (by omega)
   ·exact bVa hc rfl g1 (h3 _) (iL (hj _ (by simp)) (by omega)) L h6 gs h2 (by omega) (by omega)
  ·have es:lE b=0:=by unfold lE;rw [if_neg h6]
   rw [es] at hjs hls h2 gs ⊢
   rcases Oq with rfl | rfl | rfl | rfl | rfl
   ·exact bUt hc rfl g1 (h3 _) (iL (hj _ (by simp)) (by omega)) L (by omega) gs h2 (by omega) (by omega)
   ·exact bUv hc rfl g1 (h3 _) (iL (hj _ (by simp)) (by omega)) L (by omega) gs h2 (by omega) (by omega)
   ·exact bUx hc rfl g1 (h3 _) (iL (hj _ (by simp)) (by omega)) L (by omega) gs h2 (by omega) (by omega)
   ·exact bUz hc rfl g1 (h3 _) (iL (hj _ (by simp)) (by omega)) L (by omega) gs h2 (by omega) (by omega)
   ·exact bMe hc rfl g1 (h3 _) (iL (hj _ (by simp)) (by omega)) L (by omega) gs h2 (by omega) (by omega)
 ·rw [if_pos hc]
  exact bUr hc rfl
end KV
end Go.Proofs
end
namespace Go.Proofs
namespace KV
open Tryz
section
variable {r0:Bool}{e f k l er fd ln:Int}{i i' Aq:Nat}

noncomputable abbrev nH:Code:=sub (cd Tryz.f177) [1,0,1,0,0]
theorem bQe:0≤(0:Int)∧(0:Int)<5:=by first | decide | simp
theorem bQf:(decide ((0:Int)<5))=true:=by first | decide | simp
theorem bQg:0≤(1:Int)∧(1:Int)<5:=by first | decide | simp
theorem bQh:(decide ((1:Int)<5))=true:=by first | decide | simp
theorem bQi:0≤(2:Int)∧(2:Int)<5:=by first | decide | simp
theorem bQj:(decide ((2:Int)<5))=true:=by first | decide | simp
theorem bQk:0≤(3:Int)∧(3:Int)<5:=by first | decide | simp
theorem bQl:(decide ((3:Int)<5))=true:=by first | decide | simp
theorem bQm:0≤(4:Int)∧(4:Int)<5:=by first | decide | simp
theorem bQn:(decide ((4:Int)<5))=true:=by first | decide | simp
def rwE(r:List Cel):List PV:=[aN r]
theorem fH:∀ R:List (List Cel),(R.map rwE).flatten=R.map aN
 | []=>rfl
 | r::R=>by rw [eZ,vU,fH R];rfl
theorem bUj{R:List (List Cel)}(h0:e=0)(h1:er≠0)(Al:r0=(er == 0)):FMM Tp 176 [(pI fd),(pI er),(.ptr 0 0),(.ptr 1 0)] [some (.box 156 [(.ptr 2 0)]),some (.box 3 [(pI ln)]),some (.box 158 [(pI k),(.own 3),(pI l),(pI f),(pI e)]),some (.row 78 R.length ((R.map rwE).flatten))] (pB r0) [some (.box 156 [(.ptr 2 0)]),some (.box 3 [(pI ln)]),some (.box 158 [(pI k),(.own 3),(pI ln),(pI fd),(pI er)]),some (.row 78 R.length ((R.map rwE).flatten))]:=by
 subst Al;exact FMM.fi 4 gE func176 [bT,bT,bT,bT] (gc (fJ h1) (Ay (dC h0) gn))
theorem bUk{R:List (List Cel)}(h0:e=0)(h1:er=0)(Al:r0=(e == 0)):FMM Tp 176 [(pI fd),(pI er),(.ptr 0 0),(.ptr 1 0)] [some (.box 156 [(.ptr 2 0)]),some (.box 3 [(pI ln)]),some (.box 158 [(pI k),(.own 3),(pI l),(pI f),(pI e)]),some (.row 78 R.length ((R.map rwE).flatten))] (pB r0) [some (.box 156 [(.ptr 2 0)]),some (.box 3 [(pI ln)]),some (.box 158 [(pI k),(.own 3),(pI l),(pI f),(pI e)]),some (.row 78 R.length ((R.map rwE).flatten))]:=by
 subst Al;exact FMM.fi 4 gE func176 [bT,bT,bT,bF] (gc (bK h1) (Ay (dC h0) gn))
theorem bUl{R:List (List Cel)}(h0:e≠0)(Al:r0=(e == 0)):FMM Tp 176 [(pI fd),(pI er),(.ptr 0 0),(.ptr 1 0)] [some (.box 156 [(.ptr 2 0)]),some (.box 3 [(pI ln)]),some (.box 158 [(pI k),(.own 3),(pI l),(pI f),(pI e)]),some (.row 78 R.length ((R.map rwE).flatten))] (pB r0) [some (.box 156 [(.ptr 2 0)]),some (.box 3 [(pI ln)]),some (.box 158 [(pI k),(.own 3),(pI l),(pI f),(pI e)]),some (.row 78 R.length ((R.map rwE).flatten))]:=by
 subst Al;exact FMM.fi 4 gE func176 [bF,bF,bF] (Ay (bP h0) gn)
theorem fA{R:List (List Cel)}:FMM Tp 89 [(.ptr 0 0),(pI ln)] [some (.box 158 [(pI k),(.own 1),(pI l),(pI f),(pI e)]),some (.row 78 R.length ((R.map rwE).flatten))] (.fn 176 [] [(.ptr 2 0),(.ptr 3 0)]) [some (.box 158 [(pI k),(.own 1),(pI l),(pI f),(pI e)]),some (.row 78 R.length ((R.map rwE).flatten)),some (.box 156 [(.ptr 0 0)]),some (.box 3 [(pI ln)])]:=FMM.fi 2 ⟨[],[2,3],[],[]⟩ func89 [] gn
def aR(ln fd er:Int)(s:Int × Int × Int):Int × Int × Int:=if s.2.2=0∧er≠0 then (ln,fd,er) else s
theorem cS(fd er ln k l f e:Int)(R:List (List Cel)):FMM Tp 176 [.p (aB fd),.p (aB er),.ptr 0 0,.ptr 1 0] [some (.box 156 [(.ptr 2 0)]),some (.box 3 [(pI ln)]),some (.box 158 [(pI k),(.own 3),(pI l),(pI f),(pI e)]),some (.row 78 R.length ((R.map rwE).flatten))] (pB ((aR ln fd er (l,f,e)).2.2 == 0)) [some (.box 156 [(.ptr 2 0)]),some (.box 3 [(pI ln)]),some (.box 158 [(pI k),(.own 3),(pI ((aR ln fd er (l,f,e)).1)),(pI ((aR ln fd er (l,f,e)).2.1)),(pI ((aR ln fd er (l,f,e)).2.2))]),some (.row 78 R.length ((R.map rwE).flatten))]:=by
 unfold aR
 by_cases h:e=0
 ·by_cases h2:er=0
  ·rw [if_neg (by simp [h2])];exact bUk h h2 rfl
  ·rw [if_pos ⟨h,h2⟩];exact bUj h h2 rfl
 ·rw [if_neg (by simp [h])];exact bUl h rfl
def dP(s:List UInt8)(i:Nat):St:=⟨fr 19 [(0,(.arr 0 0 5)),(1,(.p (aD s))),(7,(pI 5)),(8,(pI (i:Int)))],[some (.box 207 [(.p (aD ([115,116,97,114,116,115]:List UInt8))),(.p (aD ([112,97,115,115,101,115]:List UInt8))),(.p (aD ([116,97,114,103,101,116,115]:List UInt8))),(.p (aD ([106,117,100,103,101,109,101,110,116,115]:List UInt8))),(.p (aD ([99,117,112,115]:List UInt8)))])]⟩
theorem bUm{s:List UInt8}(hl0:aF Tp 1 nH (dP s 0) (.exit 0) (dP s Aq)):FMM Tp 177 [(.arr 0 0 5),(.p (aD s))] [some (.box 207 [(.p (aD ([115,116,97,114,116,115]:List UInt8))),(.p (aD ([112,97,115,115,101,115]:List UInt8))),(.p (aD ([116,97,114,103,101,116,115]:List UInt8))),(.p (aD ([106,117,100,103,101,109,101,110,116,115]:List UInt8))),(.p (aD ([99,117,112,115]:List UInt8)))])] (pI (-1)) [some (.box 207 [(.p (aD ([115,116,97,114,116,115]:List UInt8))),(.p (aD ([112,97,115,115,101,115]:List UInt8))),(.p (aD ([116,97,114,103,101,116,115]:List UInt8))),(.p (aD ([106,117,100,103,101,109,101,110,116,115]:List UInt8))),(.p (aD ([99,117,112,115]:List UInt8)))])]:=FMM.fi 1 gE func177 [hl0.k 6 (gZ cb)] (gc hl0.code gn)
theorem aAl{s:List UInt8}(hl0:aF Tp 1 nH (dP s 0) .ret (cN (dP s Aq) [(4,(pI (Aq:Int)))])):FMM Tp 177 [(.arr 0 0 5),(.p (aD s))] [some (.box 207 [(.p (aD ([115,116,97,114,116,115]:List UInt8))),(.p (aD ([112,97,115,115,101,115]:List UInt8))),(.p (aD ([116,97,114,103,101,116,115]:List UInt8))),(.p (aD ([106,117,100,103,101,109,101,110,116,115]:List UInt8))),(.p (aD ([99,117,112,115]:List UInt8)))])] (pI (Aq:Int)) [some (.box 207 [(.p (aD ([115,116,97,114,116,115]:List UInt8))),(.p (aD ([112,97,115,115,101,115]:List UInt8))),(.p (aD ([116,97,114,103,101,116,115]:List UInt8))),(.p (aD ([106,117,100,103,101,109,101,110,116,115]:List UInt8))),(.p (aD ([99,117,112,115]:List UInt8)))])]:=FMM.fi 1 gE func177 [hl0.k 6 (gZ cb)] (gc hl0.code gn)
theorem aXt{s:List UInt8}(Ar:i=0)(h1:s=([115,116,97,114,116,115]:List UInt8))(Aj:i'=0):aA Tp 1 nH (dP s i) .ret (cN (dP s i') [(4,(pI 0))]):=by
 subst Ar;subst Aj;exact aA.fi (gZ bq) [bT,bT] (gt ((decide (s=([115,116,97,114,116,115]:List UInt8)))=true) (decide_eq_true h1) (gc bQe (gc bQf gn)))
theorem nI{s:List UInt8}(Ar:i=0)(h1:s≠([115,116,97,114,116,115]:List UInt8))(Aj:i'=1):aA Tp 1 nH (dP s i) .normal (dP s i'):=by
 subst Ar;subst Aj;exact aA.fi (gZ cb) [bT,bF] (gt (inR 1) (by show _∧_;omega) (gt ((decide (s=([115,116,97,114,116,115]:List UInt8)))=false) (decide_eq_false h1) (gc bQe (gc bQf gn))))
theorem aXu{s:List UInt8}(Ar:i=1)(h1:s=([112,97,115,115,101,115]:List UInt8))(Aj:i'=1):aA Tp 1 nH (dP s i) .ret (cN (dP s i') [(4,(pI 1))]):=by
 subst Ar;subst Aj;exact aA.fi (gZ bq) [bT,bT] (gt ((decide (s=([112,97,115,115,101,115]:List UInt8)))=true) (decide_eq_true h1) (gc bQg (gc bQh gn)))
theorem rI{s:List UInt8}(Ar:i=1)(h1:s≠([112,97,115,115,101,115]:List UInt8))(Aj:i'=2):aA Tp 1 nH (dP s i) .normal (dP s i'):=by
 subst Ar;subst Aj;exact aA.fi (gZ cb) [bT,bF] (gt (inR 2) (by show _∧_;omega) (gt ((decide (s=([112,97,115,115,101,115]:List UInt8)))=false) (decide_eq_false h1) (gc bQg (gc bQh gn))))
theorem aXv{s:List UInt8}(Ar:i=2)(h1:s=([116,97,114,103,101,116,115]:List UInt8))(Aj:i'=2):aA Tp 1 nH (dP s i) .ret (cN (dP s i') [(4,(pI 2))]):=by
 subst Ar;subst Aj;exact aA.fi (gZ bq) [bT,bT] (gt ((decide (s=([116,97,114,103,101,116,115]:List UInt8)))=true) (decide_eq_true h1) (gc bQi (gc bQj gn)))
theorem vZ{s:List UInt8}(Ar:i=2)(h1:s≠([116,97,114,103,101,116,115]:List UInt8))(Aj:i'=3):aA Tp 1 nH (dP s i) .normal (dP s i'):=by
 subst Ar;subst Aj;exact aA.fi (gZ cb) [bT,bF] (gt (inR 3) (by show _∧_;omega) (gt ((decide (s=([116,97,114,103,101,116,115]:List UInt8)))=false) (decide_eq_false h1) (gc bQi (gc bQj gn))))
theorem aXw{s:List UInt8}(Ar:i=3)(h1:s=([106,117,100,103,101,109,101,110,116,115]:List UInt8))(Aj:i'=3):aA Tp 1 nH (dP s i) .ret (cN (dP s i') [(4,(pI 3))]):=by
 subst Ar;subst Aj;exact aA.fi (gZ bq) [bT,bT] (gt ((decide (s=([106,117,100,103,101,109,101,110,116,115]:List UInt8)))=true) (decide_eq_true h1) (gc bQk (gc bQl gn)))
theorem aDx{s:List UInt8}(Ar:i=3)(h1:s≠([106,117,100,103,101,109,101,110,116,115]:List UInt8))(Aj:i'=4):aA Tp 1 nH (dP s i) .normal (dP s i'):=by
 subst Ar;subst Aj;exact aA.fi (gZ cb) [bT,bF] (gt (inR 4) (by show _∧_;omega) (gt ((decide (s=([106,117,100,103,101,109,101,110,116,115]:List UInt8)))=false) (decide_eq_false h1) (gc bQk (gc bQl gn))))
theorem aXx{s:List UInt8}(Ar:i=4)(h1:s=([99,117,112,115]:List UInt8))(Aj:i'=4):aA Tp 1 nH (dP s i) .ret (cN (dP s i') [(4,(pI 4))]):=by
 subst Ar;subst Aj;exact aA.fi (gZ bq) [bT,bT] (gt ((decide (s=([99,117,112,115]:List UInt8)))=true) (decide_eq_true h1) (gc bQm (gc bQn gn)))
theorem aXy{s:List UInt8}(Ar:i=4)(h1:s≠([99,117,112,115]:List UInt8))(Aj:i'=5):aA Tp 1 nH (dP s i) .normal (dP s i'):=by
 subst Ar;subst Aj;exact aA.fi (gZ cb) [bT,bF] (gt (inR 5) (by show _∧_;omega) (gt ((decide (s=([99,117,112,115]:List UInt8)))=false) (decide_eq_false h1) (gc bQm (gc bQn gn))))
theorem aOk{s:List UInt8}(Ar:i=5)(Aj:i'=5):aA Tp 1 nH (dP s i) (.exit 0) (dP s i'):=by
 subst Ar;subst Aj;exact aA.fi (gZ cb) [bF] (gt ((decide ((5:Int)<5))=false) (by first | decide | simp) gn)
def dU(s:List UInt8):Int:=if s=([115,116,97,114,116,115]:List UInt8) then 0 else if s=([112,97,115,115,101,115]:List UInt8) then 1 else if s=([116,97,114,103,101,116,115]:List UInt8) then 2 else if s=([106,117,100,103,101,109,101,110,116,115]:List UInt8) then 3 else if s=([99,117,112,115]:List UInt8) then 4 else -1
theorem bGm(s:List UInt8):FMM Tp 177 [.arr 0 0 5,.p (aD s)] [some (.box 207 [(.p (aD ([115,116,97,114,116,115]:List UInt8))),(.p (aD ([112,97,115,115,101,115]:List UInt8))),(.p (aD ([116,97,114,103,101,116,115]:List UInt8))),(.p (aD ([106,117,100,103,101,109,101,110,116,115]:List UInt8))),(.p (aD ([99,117,112,115]:List UInt8)))])] (pI (dU s)) [some (.box 207 [(.p (aD ([115,116,97,114,116,115]:List UInt8))),(.p (aD ([112,97,115,115,101,115]:List UInt8))),(.p (aD ([116,97,114,103,101,116,115]:List UInt8))),(.p (aD ([106,117,100,103,101,109,101,110,116,115]:List UInt8))),(.p (aD ([99,117,112,115]:List UInt8)))])]:=by
 unfold dU
 by_cases h0:s=([115,116,97,114,116,115]:List UInt8)
 ·rw [if_pos h0];exact aAl (Aq:=0) (.exit (aXt rfl h0 rfl) (by simp))
 ·rw [if_neg h0]
  by_cases h1:s=([112,97,115,115,101,115]:List UInt8)
  ·rw [if_pos h1];exact aAl (Aq:=1) (.step (nI rfl h0 rfl) (.exit (aXu rfl h1 rfl) (by simp)))
  ·rw [if_neg h1]
   by_cases h2:s=([116,97,114,103,101,116,115]:List UInt8)
   ·rw [if_pos h2];exact aAl (Aq:=2) (.step (nI rfl h0 rfl) (.step (rI rfl h1 rfl) (.exit (aXv rfl h2 rfl) (by simp))))
   ·rw [if_neg h2]
    by_cases h3:s=([106,117,100,103,101,109,101,110,116,115]:List UInt8)
    ·rw [if_pos h3];exact aAl (Aq:=3) (.step (nI rfl h0 rfl) (.step (rI rfl h1 rfl) (.step (vZ rfl h2 rfl) (.exit (aXw rfl h3 rfl) (by simp)))))
    ·rw [if_neg h3]
     by_cases h4:s=([99,117,112,115]:List UInt8)
     ·rw [if_pos h4];exact aAl (Aq:=4) (.step (nI rfl h0 rfl) (.step (rI rfl h1 rfl) (.step (vZ rfl h2 rfl) (.step (aDx rfl h3 rfl) (.exit (aXx rfl h4 rfl) (by simp))))))
     ·rw [if_neg h4];exact bUm (.step (nI rfl h0 rfl) (.step (rI rfl h1 rfl) (.step (vZ rfl h2 rfl) (.step (aDx rfl h3 rfl) (.step (aXy rfl h4 rfl) (.exit (aOk rfl rfl) (by simp)))))))
end
section
variable {k e1 f1 kd l1 ln my B7 Cb H4 Cc H5:Int}{i i':Nat}

noncomputable abbrev jV:Code:=sub (cd Tryz.f90) [1,0,1,1,1,0,1,0,0]
theorem bFv:(decide ((0:Int)<3))=true:=by first | decide | simp
theorem bFw:(decide ((1:Int)<3))=true:=by first | decide | simp
theorem bFx:(decide ((2:Int)<3))=true:=by first | decide | simp
theorem bQd:(decide ((3:Int)<3))=false:=by first | decide | simp
theorem aRt:inR (1:Int):=by unfold inR;omega
theorem aRu:inR (2:Int):=by unfold inR;omega
theorem aRv:inR (3:Int):=by unfold inR;omega
theorem bFy:(decide ((0:Int)<4))=true:=by first | decide | simp
theorem bFz:(decide ((1:Int)<4))=true:=by first | decide | simp
theorem bGa:(decide ((2:Int)<4))=true:=by first | decide | simp
theorem aOd:inR (4:Int):=by unfold inR;omega
theorem bGb:((0:Int) == 0)=true:=by first | decide | simp
theorem bGc:((1:Int) == 1)=true:=by first | decide | simp
theorem bGd:((1:Int) == 0)=false:=by first | decide | simp
theorem bGe:((2:Int) == 2)=true:=by first | decide | simp
theorem bGf:((2:Int) == 1)=false:=by first | decide | simp
theorem bGg:((2:Int) == 0)=false:=by first | decide | simp
theorem bGh:((3:Int) == 2)=false:=by first | decide | simp
theorem bGi:((3:Int) == 1)=false:=by first | decide | simp
theorem bGj:((3:Int) == 0)=false:=by first | decide | simp
theorem bGk:(decide ((3:Int)<4))=true:=by first | decide | simp
def cZ(fs:List (List UInt8))(ln k:Int)(R:List (List Cel))(i:Nat)(kd my l1 f1 e1:Int):St:=⟨fr 70 [(0,(.ptr 0 0)),(1,(.p (.sl fs.length ((fs.map stE).flatten)))),(2,(.fn 176 [] [(.ptr 2 0),(.ptr 3 0)])),(6,(pI 0)),(7,(.ptr 4 0)),(8,(pI kd)),(9,(pI my)),(13,(pI (i:Int)))],[some (.box 158 [(pI k),(.own 1),(pI l1),(pI f1),(pI e1)]),some (.row 78 R.length ((R.map rwE).flatten)),some (.box 156 [(.ptr 0 0)]),some (.box 3 [(pI ln)]),some (.box 207 [(.p (aD ([115,116,97,114,116,115]:List UInt8))),(.p (aD ([112,97,115,115,101,115]:List UInt8))),(.p (aD ([116,97,114,103,101,116,115]:List UInt8))),(.p (aD ([106,117,100,103,101,109,101,110,116,115]:List UInt8))),(.p (aD ([99,117,112,115]:List UInt8)))])]⟩
theorem qA{fs:List (List UInt8)}{l f e:Int}{R:List (List Cel)}{Aq:Nat}{I6 Kk l1'3 f1'4 e1'5 r0:Int}(hl0:aF Tp 4 jV (cZ fs ln k R 0 (-1) 0 l f e) (.exit 0) (cZ fs ln k R Aq I6 Kk l1'3 f1'4 e1'5))(Al:r0=(if I6 > 0 then I6 else 0)):FMM Tp 90 [(.ptr 0 0),(.p (.sl fs.length ((fs.map stE).flatten))),(.fn 176 [] [(.ptr 2 0),(.ptr 3 0)])] [some (.box 158 [(pI k),(.own 1),(pI l),(pI f),(pI e)]),some (.row 78 R.length ((R.map rwE).flatten)),some (.box 156 [(.ptr 0 0)]),some (.box 3 [(pI ln)])] (pI Kk) [some (.box 158 [(pI r0),(.own 1),(pI l1'3),(pI f1'4),(pI e1'5)]),some (.row 78 R.length ((R.map rwE).flatten)),some (.box 156 [(.ptr 0 0)]),some (.box 3 [(pI ln)])]:=by
 subst Al;have k1:=fk 4 (kE) rfl;exact FMM.fi 4 gE func90 [k1.o,hl0.k 7 (gI bj [4])] (gc hl0.code (gc k1 gn))
theorem aXn{fs:List (List UInt8)}{R:List (List Cel)}(Ar:i=0)(h1:(fs.length:Int)≤0)(Aj:i'=0)(A6:Cc=((aR ln 1 11 (l1,f1,e1)).1))(A7:Cb=((aR ln 1 11 (l1,f1,e1)).2.1))(A8:B7=((aR ln 1 11 (l1,f1,e1)).2.2)):aA Tp 4 jV (cZ fs ln k R i kd my l1 f1 e1) (.exit 0) (cZ fs ln k R i' kd my Cc Cb B7):=by
 subst Ar;subst Aj A6 A7 A8;have k1:=mq cg 5 (cS 1 11 ln k l1 f1 e1 R);exact aA.fi (gI bj [4]) (rT 7++[k1.o]) (gc k1 (gc aRt (gc (mB h1) (Cw bFv (gc bFy gn)))))
section
variable{fs:List (List UInt8)}{Aa:List UInt8}(Ar:i=0)(h1:(0:Int)<(fs.length:Int))(h2:fs[0]? = some (Aa))
include Ar h1 h2
theorem aXo{R:List (List Cel)}(h3:Aa≠([107,108,105,115,116,101,114]:List UInt8))(h4:((aR ln 1 11 (l1,f1,e1)).2.2)≠0)(Aj:i'=0)(A6:Cc=((aR ln 1 11 (l1,f1,e1)).1))(A7:Cb=((aR ln 1 11 (l1,f1,e1)).2.1))(A8:B7=((aR ln 1 11 (l1,f1,e1)).2.2)):aA Tp 4 jV (cZ fs ln k R i kd my l1 f1 e1) (.exit 0) (cZ fs ln k R i' kd my Cc Cb B7):=by
 subst Ar;subst Aj A6 A7 A8;have k1:=mq cg 5 (cS 1 11 ln k l1 f1 e1 R);exact aA.fi (gI bj [4]) (rT 6++[bF,bT,.x (aD Aa),bT,k1.o,bT]) (gc (dB (bP h4)) (gc k1 (gc aRt (gc (dB (decide_eq_false h3)) (gt (((fs.map stE).flatten)[0]? = some (aD Aa)) (aM (E:=stE) (i:=0) (f:=0) (k:=1) (fun _=>rfl) h2 rfl) (gc (bC (E:=stE) (k:=1) (i:=(0:Int)) (fun _=>rfl) (by decide) (by first | decide | simp) h2) (gc bGb (gc (eJ h1) (Cw bFv (gc bFy gn))))))))))
theorem aXp{R:List (List Cel)}(h3:Aa=([107,108,105,115,116,101,114]:List UInt8))(h4:((aR ln 1 0 (l1,f1,e1)).2.2)=0)(Aj:i'=1)(A6:Cc=((aR ln 1 0 (l1,f1,e1)).1))(A7:Cb=((aR ln 1 0 (l1,f1,e1)).2.1))(A8:B7=((aR ln 1 0 (l1,f1,e1)).2.2)):aA Tp 4 jV (cZ fs ln k R i kd my l1 f1 e1) .normal (cZ fs ln k R i' kd my Cc Cb B7):=by
 subst Ar;subst Aj A6 A7 A8;have k1:=mq cg 5 (cS 1 0 ln k l1 f1 e1 R);exact aA.fi (gI bj [4]) (rT 6++[bF,bT,.x (aD Aa),bF,k1.o,bF]) (gc aRt (gc (aU (dC h4)) (gc k1 (gc aRt (gc (aU (decide_eq_true h3)) (gt (((fs.map stE).flatten)[0]? = some (aD Aa)) (aM (E:=stE) (i:=0) (f:=0) (k:=1) (fun _=>rfl) h2 rfl) (gc (bC (E:=stE) (k:=1) (i:=(0:Int)) (fun _=>rfl) (by decide) (by first | decide | simp) h2) (gc bGb (gc (eJ h1) (Cw bFv (gc bFy gn)))))))))))
end
theorem aXq{fs:List (List UInt8)}{R:List (List Cel)}(Ar:i=1)(h1:(fs.length:Int)≤1)(Aj:i'=1)(A6:Cc=((aR ln 2 11 (l1,f1,e1)).1))(A7:Cb=((aR ln 2 11 (l1,f1,e1)).2.1))(A8:B7=((aR ln 2 11 (l1,f1,e1)).2.2)):aA Tp 4 jV (cZ fs ln k R i kd my l1 f1 e1) (.exit 0) (cZ fs ln k R i' kd my Cc Cb B7):=by
 subst Ar;subst Aj A6 A7 A8;have k1:=mq cg 5 (cS 2 11 ln k l1 f1 e1 R);exact aA.fi (gI bj [4]) (rT 7++[k1.o]) (gc k1 (gc aRu (gc (mB h1) (Cw bFw (gc bFz gn)))))
section
variable{fs:List (List UInt8)}{Aa:List UInt8}(Ar:i=1)(h1:(1:Int)<(fs.length:Int))(h2:fs[1]? = some (Aa))
include Ar h1 h2
theorem aXr{R:List (List Cel)}(h3:(dU Aa)<0)(h4:((aR ln 2 12 (l1,f1,e1)).2.2)≠0)(Aj:i'=1)(Fq:H4=(dU Aa))(A6:Cc=((aR ln 2 12 (l1,f1,e1)).1))(A7:Cb=((aR ln 2 12 (l1,f1,e1)).2.1))(A8:B7=((aR ln 2 12 (l1,f1,e1)).2.2)):aA Tp 4 jV (cZ fs ln k R i kd my l1 f1 e1) (.exit 0) (cZ fs ln k R i' H4 my Cc Cb B7):=by
 subst Ar;subst Aj Fq A6 A7 A8;have k1:=mq [4] 5 (bGm Aa);have k2:=mq cg 5 (cS 2 12 ln k l1 f1 e1 R);exact aA.fi (gI bj [4]) (rT 6++[bF,bF,bT,.x (aD Aa),k1.o,bT,k2.o,bT]) (gc (dB (bP h4)) (gc k2 (gc aRu (gc (cP h3) (gc k1 (gt (((fs.map stE).flatten)[1]? = some (aD Aa)) (aM (E:=stE) (i:=1) (f:=0) (k:=1) (fun _=>rfl) h2 rfl) (gc (bC (E:=stE) (k:=1) (i:=(1:Int)) (fun _=>rfl) (by decide) (by first | decide | simp) h2) (gt (0≤(0:Int)∧(0:Int)≤5∧(5:Int)≤5∧5≤maxLen) (by unfold maxLen;omega) (gc bGc (gc bGd (gc (eJ h1) (Cw bFw (gc bFz gn)))))))))))))
theorem aXs{R:List (List Cel)}(h3:(0:Int)≤(dU Aa))(h4:((aR ln 2 0 (l1,f1,e1)).2.2)=0)(Aj:i'=2)(Fq:H4=(dU Aa))(A6:Cc=((aR ln 2 0 (l1,f1,e1)).1))(A7:Cb=((aR ln 2 0 (l1,f1,e1)).2.1))(A8:B7=((aR ln 2 0 (l1,f1,e1)).2.2)):aA Tp 4 jV (cZ fs ln k R i kd my l1 f1 e1) .normal (cZ fs ln k R i' H4 my Cc Cb B7):=by
 subst Ar;subst Aj Fq A6 A7 A8;have k1:=mq [4] 5 (bGm Aa);have k2:=mq cg 5 (cS 2 0 ln k l1 f1 e1 R);exact aA.fi (gI bj [4]) (rT 6++[bF,bF,bT,.x (aD Aa),k1.o,bF,k2.o,bF]) (gc aRu (gc (aU (dC h4)) (gc k2 (gc aRu (gc (bL h3) (gc k1 (gt (((fs.map stE).flatten)[1]? = some (aD Aa)) (aM (E:=stE) (i:=1) (f:=0) (k:=1) (fun _=>rfl) h2 rfl) (gc (bC (E:=stE) (k:=1) (i:=(1:Int)) (fun _=>rfl) (by decide) (by first | decide | simp) h2) (gt (0≤(0:Int)∧(0:Int)≤5∧(5:Int)≤5∧5≤maxLen) (by unfold maxLen;omega) (gc bGc (gc bGd (gc (eJ h1) (Cw bFw (gc bFz gn))))))))))))))
end
theorem aOe{fs:List (List UInt8)}{R:List (List Cel)}(Ar:i=2)(h1:(fs.length:Int)≤2)(Aj:i'=2)(A6:Cc=((aR ln 3 11 (l1,f1,e1)).1))(A7:Cb=((aR ln 3 11 (l1,f1,e1)).2.1))(A8:B7=((aR ln 3 11 (l1,f1,e1)).2.2)):aA Tp 4 jV (cZ fs ln k R i kd my l1 f1 e1) (.exit 0) (cZ fs ln k R i' kd my Cc Cb B7):=by
 subst Ar;subst Aj A6 A7 A8;have k1:=mq cg 5 (cS 3 11 ln k l1 f1 e1 R);exact aA.fi (gI bj [4]) (rT 7++[k1.o]) (gc k1 (gc aRv (gc (mB h1) (Cw bFx (gc bGa gn)))))
section
variable{fs:List (List UInt8)}{Aa:List UInt8}(Ar:i=2)(h1:(2:Int)<(fs.length:Int))(h2:fs[2]? = some (Aa))(h3:0≤(200:Int)∧(200:Int)≤1000000000)
include Ar h1 h2 h3
theorem aOf{R:List (List Cel)}(h4:((aR ln 3 ((bJ Aa 200).2) (l1,f1,e1)).2.2)≠0)(Aj:i'=2)(Fu:H5=((bJ Aa 200).1))(A6:Cc=((aR ln 3 ((bJ Aa 200).2) (l1,f1,e1)).1))(A7:Cb=((aR ln 3 ((bJ Aa 200).2) (l1,f1,e1)).2.1))(A8:B7=((aR ln 3 ((bJ Aa 200).2) (l1,f1,e1)).2.2)):aA Tp 4 jV (cZ fs ln k R i kd my l1 f1 e1) (.exit 0) (cZ fs ln k R i' kd H5 Cc Cb B7):=by
 subst Ar;subst Aj Fu A6 A7 A8;have k1:=fk 5 (gD Aa 200 h3) rfl;have k2:=mq cg 5 (cS 3 ((bJ Aa 200).2) ln k l1 f1 e1 R);exact aA.fi (gI bj [4]) (rT 6++[bF,bF,bF,bT,.x (aD Aa),k1.o,k2.o,bT]) (gc (dB (bP h4)) (gc k2 (gc aRv (gc k1 (gt (((fs.map stE).flatten)[2]? = some (aD Aa)) (aM (E:=stE) (i:=2) (f:=0) (k:=1) (fun _=>rfl) h2 rfl) (gc (bC (E:=stE) (k:=1) (i:=(2:Int)) (fun _=>rfl) (by decide) (by first | decide | simp) h2) (gc bGe (gc bGf (gc bGg (gc (eJ h1) (Cw bFx (gc bGa gn))))))))))))
theorem aOg{R:List (List Cel)}(h4:((aR ln 3 ((bJ Aa 200).2) (l1,f1,e1)).2.2)=0)(Aj:i'=3)(Fu:H5=((bJ Aa 200).1))(A6:Cc=((aR ln 3 ((bJ Aa 200).2) (l1,f1,e1)).1))(A7:Cb=((aR ln 3 ((bJ Aa 200).2) (l1,f1,e1)).2.1))(A8:B7=((aR ln 3 ((bJ Aa 200).2) (l1,f1,e1)).2.2)):aA Tp 4 jV (cZ fs ln k R i kd my l1 f1 e1) .normal (cZ fs ln k R i' kd H5 Cc Cb B7):=by
 subst Ar;subst Aj Fu A6 A7 A8;have k1:=fk 5 (gD Aa 200 h3) rfl;have k2:=mq cg 5 (cS 3 ((bJ Aa 200).2) ln k l1 f1 e1 R);exact aA.fi (gI bj [4]) (rT 6++[bF,bF,bF,bT,.x (aD Aa),k1.o,k2.o,bF]) (gc aRv (gc (aU (dC h4)) (gc k2 (gc aRv (gc k1 (gt (((fs.map stE).flatten)[2]? = some (aD Aa)) (aM (E:=stE) (i:=2) (f:=0) (k:=1) (fun _=>rfl) h2 rfl) (gc (bC (E:=stE) (k:=1) (i:=(2:Int)) (fun _=>rfl) (by decide) (by first | decide | simp) h2) (gc bGe (gc bGf (gc bGg (gc (eJ h1) (Cw bFx (gc bGa gn)))))))))))))
end
theorem aOh{fs:List (List UInt8)}{R:List (List Cel)}(Ar:i=3)(h1:(3:Int)<(fs.length:Int))(h2:((aR ln 4 11 (l1,f1,e1)).2.2)≠0)(Aj:i'=3)(A6:Cc=((aR ln 4 11 (l1,f1,e1)).1))(A7:Cb=((aR ln 4 11 (l1,f1,e1)).2.1))(A8:B7=((aR ln 4 11 (l1,f1,e1)).2.2)):aA Tp 4 jV (cZ fs ln k R i kd my l1 f1 e1) (.exit 0) (cZ fs ln k R i' kd my Cc Cb B7):=by
 subst Ar;subst Aj A6 A7 A8;have k1:=mq cg 5 (cS 4 11 ln k l1 f1 e1 R);exact aA.fi (gI bj [4]) ([bT]++rF 8++[bT,k1.o,bT]) (gc (dB (bP h2)) (gc k1 (gc aOd (gc (cP h1) (gc bGh (gc bGi (gc bGj (Cw bQd (gc bGk gn)))))))))
theorem aOi{fs:List (List UInt8)}{R:List (List Cel)}(Ar:i=3)(h1:(fs.length:Int)≤3)(h2:((aR ln 4 0 (l1,f1,e1)).2.2)=0)(Aj:i'=4)(A6:Cc=((aR ln 4 0 (l1,f1,e1)).1))(A7:Cb=((aR ln 4 0 (l1,f1,e1)).2.1))(A8:B7=((aR ln 4 0 (l1,f1,e1)).2.2)):aA Tp 4 jV (cZ fs ln k R i kd my l1 f1 e1) .normal (cZ fs ln k R i' kd my Cc Cb B7):=by
 subst Ar;subst Aj A6 A7 A8;have k1:=mq cg 5 (cS 4 0 ln k l1 f1 e1 R);exact aA.fi (gI bj [4]) ([bT]++rF 9++[k1.o,bF]) (gc aOd (gc (aU (dC h2)) (gc k1 (gc aOd (gc (bL h1) (gc bGh (gc bGi (gc bGj (Cw bQd (gc bGk gn))))))))))
theorem aOj{fs:List (List UInt8)}{R:List (List Cel)}(Ar:i=4)(Aj:i'=4):aA Tp 4 jV (cZ fs ln k R i kd my l1 f1 e1) (.exit 0) (cZ fs ln k R i' kd my l1 f1 e1):=by
 subst Ar;subst Aj;exact aA.fi (gI bj [4]) [bF] (gt ((decide ((4:Int)<4))=false) (by first | decide | simp) gn)
def fld(fs:List (List UInt8))(j:Nat):List UInt8:=(fs[j]?).getD []
theorem aAk{fs:List (List UInt8)}{j:Nat}(h:j<fs.length):fs[j]? = some (fld fs j):=by
 unfold fld;rw [B3 h];rfl
def hdM(fs:List (List UInt8)):Int × Int × Int × Int :=
 if fs.length=0∨fld fs 0≠[107,108,105,115,116,101,114] then (-1,0,1,11)
 else if fs.length=1 then (-1,0,2,11)
 else if dU (fld fs 1)<0 then (dU (fld fs 1),0,2,12)
 else if fs.length=2 then (dU (fld fs 1),0,3,11)
 else if (bJ (fld fs 2) 200).2≠0 then (dU (fld fs 1),(bJ (fld fs 2) 200).1,3,(bJ (fld fs 2) 200).2)
 else if 3<fs.length then (dU (fld fs 1),(bJ (fld fs 2) 200).1,4,11)
 else (dU (fld fs 1),(bJ (fld fs 2) 200).1,0,0)
theorem Io(ln fd l f:Int):aR ln fd 0 (l,f,0)=(l,f,0):=rfl
theorem Ep{er:Int}(ln fd l f:Int)(h:er≠0):aR ln fd er (l,f,0)=(ln,fd,er):=if_pos ⟨rfl,h⟩
def Dl(k:Int):Int:=if k > 0 then k else 0
theorem bGl (fs:List (List UInt8)) (ln k l f:Int) (R:List (List Cel)):FMM Tp 90 [.ptr 0 0,.p (.sl fs.length ((fs.map stE).flatten)),.fn 176 [] [.ptr 2 0,.ptr 3 0]] [some (.box 158 [(pI k),(.own 1),(pI l),(pI f),(pI 0)]),some (.row 78 R.length ((R.map rwE).flatten)),some (.box 156 [(.ptr 0 0)]),some (.box 3 [(pI ln)])]
  (.p (aB (hdM fs).2.1)) [some (.box 158 [(pI (Dl (hdM fs).1)),(.own 1),(pI ((aR ln (hdM fs).2.2.1 (hdM fs).2.2.2 (l,f,0)).1)),(pI ((aR ln (hdM fs).2.2.1 (hdM fs).2.2.2 (l,f,0)).2.1)),(pI ((aR ln (hdM fs).2.2.1 (hdM fs).2.2.2 (l,f,0)).2.2))]),some (.row 78 R.length ((R.map rwE).flatten)),some (.box 156 [(.ptr 0 0)]),some (.box 3 [(pI ln)])]:=by
 have t1:∀ fd er,er≠0→aR ln fd er (l,f,0)=(ln,fd,er):=fun fd er h=>Ep ln fd l f h
 have a0:∀ fd,l=(aR ln fd 0 (l,f,0)).1:=fun _=>rfl
 unfold hdM
 by_cases h0:fs.length=0
 ·rw [if_pos (.inl h0)]
  exact qA (.exit (aXn rfl (by omega) rfl rfl rfl rfl) (by simp)) rfl
 ·have f0:=aAk (fs:=fs) (j:=0) (by omega)
  by_cases h1:fld fs 0=[107,108,105,115,116,101,114]
  ·rw [if_neg (by simp [h0,h1])]
   have s0:aA Tp 4 jV (cZ fs ln k R 0 (-1) 0 l f 0) .normal (cZ fs ln k R 1 (-1) 0 l f 0):=aXp rfl (by omega) f0 h1 rfl rfl rfl rfl rfl
   by_cases h2:fs.length=1
   ·rw [if_pos h2]
    exact qA (.step s0 (.exit (aXq rfl (by omega) rfl rfl rfl rfl) (by simp))) rfl
   ·rw [if_neg h2]
    have f1:=aAk (fs:=fs) (j:=1) (by omega)
    by_cases h3:dU (fld fs 1)<0
    ·rw [if_pos h3]
     exact qA (.step s0 (.exit (aXr rfl (by omega) f1 h3 (by rw [t1 _ _ (by decide)];simp) rfl rfl rfl rfl rfl) (by simp))) rfl
    ·rw [if_neg h3]
     have s1:aA Tp 4 jV (cZ fs ln k R 1 (-1) 0 l f 0) .normal (cZ fs ln k R 2 (dU (fld fs 1)) 0 l f 0):=aXs rfl (by omega) f1 (by omega) rfl rfl rfl rfl rfl rfl
     by_cases h4:fs.length=2
     ·rw [if_pos h4]
      exact qA (.step s0 (.step s1 (.exit (aOe rfl (by omega) rfl rfl rfl rfl) (by simp)))) rfl
     ·rw [if_neg h4]
      have f2:=aAk (fs:=fs) (j:=2) (by omega)
      by_cases h5:(bJ (fld fs 2) 200).2=0
      ·rw [if_neg (by simp [h5])]
       have s2:aA Tp 4 jV (cZ fs ln k R 2 (dU (fld fs 1)) 0 l f 0) .normal (cZ fs ln k R 3 (dU (fld fs 1)) (bJ (fld fs 2) 200).1 l f 0):=aOg rfl (by omega) f2 (by omega) (by rw [h5];rfl) rfl rfl (by rw [h5];rfl) (by rw [h5];rfl) (by rw [h5];rfl)
       by_cases h6:3<fs.length
       ·rw [if_pos h6]
        exact qA (.step s0 (.step s1 (.step s2 (.exit (aOh rfl (by omega) (by rw [t1 _ _ (by decide)];simp) rfl rfl rfl rfl) (by simp))))) rfl
       ·rw [if_neg h6]
        have s3:aA Tp 4 jV (cZ fs ln k R 3 (dU (fld fs 1)) (bJ (fld fs 2) 200).1 l f 0) .normal (cZ fs ln k R 4 (dU (fld fs 1)) (bJ (fld fs 2) 200).1 l f 0):=aOi rfl (by omega) rfl rfl rfl rfl rfl
        exact qA (.step s0 (.step s1 (.step s2 (.step s3 (.exit (aOj rfl rfl) (by simp)))))) rfl
      ·rw [if_pos h5]
       have e:=t1 3 _ h5;have:=qA (fs:=fs) (ln:=ln) (k:=k) (l:=l) (f:=f) (e:=0) (R:=R) (.step s0 (.step s1 (.exit (aOf rfl (by omega) f2 (by omega) (by rw [e];exact h5) rfl rfl rfl rfl rfl) (by simp)))) rfl
       rw [e] at this
       have e2:=t1 3 _ h5;dsimp only at this ⊢
       rw [e2];exact this
  ·rw [if_pos (.inr h1)]
   exact qA (.exit (aXo rfl (by omega) f0 h1 (by rw [t1 _ _ (by decide)];simp) rfl rfl rfl rfl) (by simp)) rfl
end
section
variable {e f k l e1 f1 l1 ln r0 r1 r2 sm B7 Cb Cc e1'4 f1'3 l1'2:Int}{i i' Aq:Nat}

noncomputable abbrev jU:Code:=sub (cd Tryz.f91) [1,1,1,1,0,1,0,0]
theorem bPz:0≤(0:Int)∧(0:Int)<4:=by first | decide | simp
theorem bQa:0≤(1:Int)∧(1:Int)<4:=by first | decide | simp
theorem bQb:0≤(2:Int)∧(2:Int)<4:=by first | decide | simp
theorem bQc:0≤(3:Int)∧(3:Int)<4:=by first | decide | simp
def cY(fs:List (List UInt8))(ln k:Int)(R:List (List Cel))(i on:Nat)(oc:List PV)(l1 f1 e1:Int):St:=⟨fr 77 [(0,(.ptr 0 0)),(1,(.p (.sl fs.length ((fs.map stE).flatten)))),(2,(.fn 176 [] [(.ptr 2 0),(.ptr 3 0)])),(8,(.p (bM (aJ k)))),(10,(.ptr 4 0)),(11,(.own 5)),(26,(pI ((aJ k).length:Int))),(27,(pI (i:Int)))],[some (.box 158 [(pI k),(.own 1),(pI l1),(pI f1),(pI e1)]),some (.row 78 R.length ((R.map rwE).flatten)),some (.box 156 [(.ptr 0 0)]),some (.box 3 [(pI ln)]),some (.box 214 [(.fn 224 [] [(.rp [(PV.fn 188 [] [])] 0)]),(.fn 225 [] [(.rp [(PV.fn 120 [] [])] 0)]),(.fn 226 [] [(.rp [(aB 999999)] 0)]),(.fn 224 [] [(.rp [(PV.fn 39 [] [])] 0)]),(.fn 225 [] [(.rp [(PV.fn 189 [] [])] 0)]),(.fn 226 [] [(.rp [(aB 360000)] 0)]),(.fn 227 [] [(.rp [(PV.fn 191 [] [])] 0)]),(.fn 228 [] []),(.fn 229 [] [(.rp [(PV.fn 191 [] [])] 0)]),(.fn 227 [] [(.rp [(PV.fn 192 [] [])] 0)]),(.fn 228 [] []),(.fn 229 [] [(.rp [(PV.fn 192 [] [])] 0)])]),some (.row 80 on oc)]⟩
section
variable{fs:List (List UInt8)}{R:List (List Cel)}{Ak:List Cel}(hl0:aF Tp 4 jU (cY fs ln k R 0 0 [] l f e) (.exit 0) (cY fs ln k R Aq Ak.length ((Ak.map cE).flatten) l1'2 f1'3 e1'4))
include hl0
theorem bUa(h1:(fs.length:Int)=((aJ k).length:Int)):FMM Tp 91 [(.ptr 0 0),(.p (.sl fs.length ((fs.map stE).flatten))),(.fn 176 [] [(.ptr 2 0),(.ptr 3 0)])] [some (.box 158 [(pI k),(.own 1),(pI l),(pI f),(pI e)]),some (.row 78 R.length ((R.map rwE).flatten)),some (.box 156 [(.ptr 0 0)]),some (.box 3 [(pI ln)])] (.tup [(.own 4),(pB true)]) [some (.box 158 [(pI k),(.own 1),(pI l1'2),(pI f1'3),(pI e1'4)]),some (.row 78 R.length ((R.map rwE).flatten)),some (.box 156 [(.ptr 0 0)]),some (.box 3 [(pI ln)]),some (.row 80 Ak.length ((Ak.map cE).flatten))]:=have k1:=fk 4 (fE k) rfl;have k2:=fk 4 (eQ) rfl;FMM.fi 4 ⟨[],[5],[],[]⟩ func91 ([k1.o,k2.o,hl0.k 6 (gN b8 [4,5] [(11,80)])]++rT 6) (Hq (dC h1) (gc hl0.code (gc k2 (gc k1 gn))))
theorem bUb{r0:Bool}{r3:Int}(h1:(fs.length:Int)≠((aJ k).length:Int))(h2:inR ((((aJ k).length+1):Nat):Int))(Al:r0=(((aR ln ((((aJ k).length+1):Nat):Int) 11 (l1'2,f1'3,e1'4)).2.2) == 0))(Dd:r1=((aR ln ((((aJ k).length+1):Nat):Int) 11 (l1'2,f1'3,e1'4)).1))(D8:r2=((aR ln ((((aJ k).length+1):Nat):Int) 11 (l1'2,f1'3,e1'4)).2.1))(Pw:r3=((aR ln ((((aJ k).length+1):Nat):Int) 11 (l1'2,f1'3,e1'4)).2.2)):FMM Tp 91 [(.ptr 0 0),(.p (.sl fs.length ((fs.map stE).flatten))),(.fn 176 [] [(.ptr 2 0),(.ptr 3 0)])] [some (.box 158 [(pI k),(.own 1),(pI l),(pI f),(pI e)]),some (.row 78 R.length ((R.map rwE).flatten)),some (.box 156 [(.ptr 0 0)]),some (.box 3 [(pI ln)])] (.tup [(.own 4),(pB r0)]) [some (.box 158 [(pI k),(.own 1),(pI r1),(pI r2),(pI r3)]),some (.row 78 R.length ((R.map rwE).flatten)),some (.box 156 [(.ptr 0 0)]),some (.box 3 [(pI ln)]),some (.row 80 Ak.length ((Ak.map cE).flatten))]:=by
 subst Al Dd D8 Pw;have k1:=fk 4 (fE k) rfl;have k2:=fk 4 (eQ) rfl;have k3:=mq cg 6 (cS ((((aJ k).length+1):Nat):Int) 11 ln k l1'2 f1'3 e1'4 R);exact FMM.fi 4 ⟨[],[5],[],[]⟩ func91 ([k1.o,k2.o,hl0.k 6 (gN b8 [4,5] [(11,80)])]++rF 5++[k3.o,bF]) (gc (bP h1) (gc k3 (gc (bP h1) (gc h2 (Gm (bP h1) (gc hl0.code (gc k2 (gc k1 gn))))))))
end
theorem bUc{fs:List (List UInt8)}{R:List (List Cel)}{Ak:List Cel}{r0:Bool}(hl0:aF Tp 4 jU (cY fs ln k R 0 0 [] l f e) .ret (cN (cY fs ln k R Aq Ak.length ((Ak.map cE).flatten) l1'2 f1'3 e1'4) [(6,(.p bO)),(7,(pB (e1'4 == 0)))]))(Al:r0=(e1'4 == 0)):FMM Tp 91 [(.ptr 0 0),(.p (.sl fs.length ((fs.map stE).flatten))),(.fn 176 [] [(.ptr 2 0),(.ptr 3 0)])] [some (.box 158 [(pI k),(.own 1),(pI l),(pI f),(pI e)]),some (.row 78 R.length ((R.map rwE).flatten)),some (.box 156 [(.ptr 0 0)]),some (.box 3 [(pI ln)])] (.tup [(.p bO),(pB r0)]) [some (.box 158 [(pI k),(.own 1),(pI l1'2),(pI f1'3),(pI e1'4)]),some (.row 78 R.length ((R.map rwE).flatten)),some (.box 156 [(.ptr 0 0)]),some (.box 3 [(pI ln)])]:=by
 subst Al;have k1:=fk 4 (fE k) rfl;have k2:=fk 4 (eQ) rfl;exact FMM.fi 4 gE func91 [k1.o,k2.o,hl0.k 6 (gN b8 [4,5] [(11,80)])] (gc hl0.code (gc k2 (gc k1 gn)))
theorem aXd{fs:List (List UInt8)}{R:List (List Cel)}{o:List Cel}(h0:(i:Int)<((aJ k).length:Int))(h1:(fs.length:Int)≤(i:Int))(h2:cn i)(A6:Cc=((aR ln (((i+1):Nat):Int) 11 (l1,f1,e1)).1))(A7:Cb=((aR ln (((i+1):Nat):Int) 11 (l1,f1,e1)).2.1))(A8:B7=((aR ln (((i+1):Nat):Int) 11 (l1,f1,e1)).2.2)):aA Tp 4 jU (cY fs ln k R i o.length ((o.map cE).flatten) l1 f1 e1) .ret (cN (cY fs ln k R i o.length ((o.map cE).flatten) Cc Cb B7) [(6,(.p bO)),(7,(pB (((aR ln (((i+1):Nat):Int) 11 (l1,f1,e1)).2.2) == 0)))]):=by
 subst A6 A7 A8;have k1:=mq cg 6 (cS (((i+1):Nat):Int) 11 ln k l1 f1 e1 R);exact aA.fi (gI b9 [4,5]) [bT,bT,k1.o] (gc k1 (gc h2 (gc (mB h1) (g0 h0))))
section
variable{fs:List (List UInt8)}(h0:(i:Int)<((aJ k).length:Int))(h1:(i:Int)<(fs.length:Int))
include h0 h1
theorem aXe{R:List (List Cel)}{o:List Cel}{Aa:List UInt8}(h2:(aJ k)[i]? = some 0)(h3:fs[i]? = some (Aa))(h4:cn i)(h5:((aR ln (((i+1):Nat):Int) ((rdM 0 Aa).2) (l1,f1,e1)).2.2)≠0)(A6:Cc=((aR ln (((i+1):Nat):Int) ((rdM 0 Aa).2) (l1,f1,e1)).1))(A7:Cb=((aR ln (((i+1):Nat):Int) ((rdM 0 Aa).2) (l1,f1,e1)).2.1))(A8:B7=((aR ln (((i+1):Nat):Int) ((rdM 0 Aa).2) (l1,f1,e1)).2.2)):aA Tp 4 jU (cY fs ln k R i o.length ((o.map cE).flatten) l1 f1 e1) .ret (cN (cY fs ln k R i o.length ((o.map cE).flatten) Cc Cb B7) [(6,(.p bO)),(7,(pB false))]):=by
 subst A6 A7 A8;have k1:=fk 6 (bGu Aa) rfl;have k2:=mq cg 15 (cS (((i+1):Nat):Int) ((rdM 0 Aa).2) ln k l1 f1 e1 R);exact aA.fi (gN b9 [4,5] [(7,0)]) [bT,bF,.x (aB 0),.x (aD Aa),k1.o,k2.o,bT] (gc (dB (bP h5)) (gc k2 (gc h4 (gc k1 (gt (((fs.map stE).flatten)[(i*1)]? = some (aD Aa)) (aM (E:=stE) (i:=i) (f:=0) (k:=1) (fun _=>rfl) h3 rfl) (gc (bC (E:=stE) (k:=1) (i:=(i:Int)) (fun _=>rfl) (by decide) (Bu _) h3) (gc bPz (gc (atm aB h2) (gc (ixn aB h2) (gc (eJ h1) (g0 h0)))))))))))
theorem aXf{R:List (List Cel)}{o:List Cel}{Aa:List UInt8}{o':List Cel}(h2:(aJ k)[i]? = some 0)(h3:fs[i]? = some (Aa))(h4:cn i)(h5:((aR ln (((i+1):Nat):Int) ((rdM 0 Aa).2) (l1,f1,e1)).2.2)=0)(h6:[(aB ((rdM 0 Aa).1.1)),(aD ((rdM 0 Aa).1.2))].length=1*2∧o.length+1≤1000000)(Aj:i'=(i+1))(Dj:o'.length=(o.length+1))(Dk:(o'.map cE).flatten=(((o.map cE).flatten)++[(aB ((rdM 0 Aa).1.1)),(aD ((rdM 0 Aa).1.2))]))(A6:Cc=((aR ln (((i+1):Nat):Int) ((rdM 0 Aa).2) (l1,f1,e1)).1))(A7:Cb=((aR ln (((i+1):Nat):Int) ((rdM 0 Aa).2) (l1,f1,e1)).2.1))(A8:B7=((aR ln (((i+1):Nat):Int) ((rdM 0 Aa).2) (l1,f1,e1)).2.2)):aA Tp 4 jU (cY fs ln k R i o.length ((o.map cE).flatten) l1 f1 e1) .normal (cY fs ln k R i' o'.length ((o'.map cE).flatten) Cc Cb B7):=by
 subst Aj A6 A7 A8;have k1:=fk 6 (bGu Aa) rfl;have k2:=mq cg 15 (cS (((i+1):Nat):Int) ((rdM 0 Aa).2) ln k l1 f1 e1 R);rw [Dj,Dk];exact aA.fi (gI b8 [4,16]) [bT,bF,.x (aB 0),.x (aD Aa),k1.o,k2.o,bF] (gc h4 (gc h6 (gt ([(aB ((rdM 0 Aa).1.1)),(aD ((rdM 0 Aa).1.2))].length=2) (by first | decide | simp) (gc (aU (dC h5)) (gc k2 (gc h4 (gc k1 (gt (((fs.map stE).flatten)[(i*1)]? = some (aD Aa)) (aM (E:=stE) (i:=i) (f:=0) (k:=1) (fun _=>rfl) h3 rfl) (gc (bC (E:=stE) (k:=1) (i:=(i:Int)) (fun _=>rfl) (by decide) (Bu _) h3) (gc bPz (gc (atm aB h2) (gc (ixn aB h2) (gc (eJ h1) (g0 h0))))))))))))))
theorem aXg{R:List (List Cel)}{o:List Cel}{Aa:List UInt8}(h2:(aJ k)[i]? = some 1)(h3:fs[i]? = some (Aa))(h4:Aa.length≤90000)(h5:cn i)(h6:((aR ln (((i+1):Nat):Int) ((rdM 1 Aa).2) (l1,f1,e1)).2.2)≠0)(A6:Cc=((aR ln (((i+1):Nat):Int) ((rdM 1 Aa).2) (l1,f1,e1)).1))(A7:Cb=((aR ln (((i+1):Nat):Int) ((rdM 1 Aa).2) (l1,f1,e1)).2.1))(A8:B7=((aR ln (((i+1):Nat):Int) ((rdM 1 Aa).2) (l1,f1,e1)).2.2)):aA Tp 4 jU (cY fs ln k R i o.length ((o.map cE).flatten) l1 f1 e1) .ret (cN (cY fs ln k R i o.length ((o.map cE).flatten) Cc Cb B7) [(6,(.p bO)),(7,(pB false))]):=by
 subst A6 A7 A8;have k1:=fk 6 (bGv Aa h4) rfl;have k2:=mq cg 15 (cS (((i+1):Nat):Int) ((rdM 1 Aa).2) ln k l1 f1 e1 R);exact aA.fi (gN b9 [4,5] [(7,0)]) [bT,bF,.x (aB 1),.x (aD Aa),k1.o,k2.o,bT] (gc (dB (bP h6)) (gc k2 (gc h5 (gc k1 (gt (((fs.map stE).flatten)[(i*1)]? = some (aD Aa)) (aM (E:=stE) (i:=i) (f:=0) (k:=1) (fun _=>rfl) h3 rfl) (gc (bC (E:=stE) (k:=1) (i:=(i:Int)) (fun _=>rfl) (by decide) (Bu _) h3) (gc bQa (gc (atm aB h2) (gc (ixn aB h2) (gc (eJ h1) (g0 h0)))))))))))
theorem aXh{R:List (List Cel)}{o:List Cel}{Aa:List UInt8}{o':List Cel}(h2:(aJ k)[i]? = some 1)(h3:fs[i]? = some (Aa))(h4:Aa.length≤90000)(h5:cn i)(h6:((aR ln (((i+1):Nat):Int) ((rdM 1 Aa).2) (l1,f1,e1)).2.2)=0)(h7:[(aB ((rdM 1 Aa).1.1)),(aD ((rdM 1 Aa).1.2))].length=1*2∧o.length+1≤1000000)(Aj:i'=(i+1))(Dj:o'.length=(o.length+1))(Dk:(o'.map cE).flatten=(((o.map cE).flatten)++[(aB ((rdM 1 Aa).1.1)),(aD ((rdM 1 Aa).1.2))]))(A6:Cc=((aR ln (((i+1):Nat):Int) ((rdM 1 Aa).2) (l1,f1,e1)).1))(A7:Cb=((aR ln (((i+1):Nat):Int) ((rdM 1 Aa).2) (l1,f1,e1)).2.1))(A8:B7=((aR ln (((i+1):Nat):Int) ((rdM 1 Aa).2) (l1,f1,e1)).2.2)):aA Tp 4 jU (cY fs ln k R i o.length ((o.map cE).flatten) l1 f1 e1) .normal (cY fs ln k R i' o'.length ((o'.map cE).flatten) Cc Cb B7):=by
 subst Aj A6 A7 A8;have k1:=fk 6 (bGv Aa h4) rfl;have k2:=mq cg 15 (cS (((i+1):Nat):Int) ((rdM 1 Aa).2) ln k l1 f1 e1 R);rw [Dj,Dk];exact aA.fi (gI b8 [4,16]) [bT,bF,.x (aB 1),.x (aD Aa),k1.o,k2.o,bF] (gc h5 (gc h7 (gt ([(aB ((rdM 1 Aa).1.1)),(aD ((rdM 1 Aa).1.2))].length=2) (by first | decide | simp) (gc (aU (dC h6)) (gc k2 (gc h5 (gc k1 (gt (((fs.map stE).flatten)[(i*1)]? = some (aD Aa)) (aM (E:=stE) (i:=i) (f:=0) (k:=1) (fun _=>rfl) h3 rfl) (gc (bC (E:=stE) (k:=1) (i:=(i:Int)) (fun _=>rfl) (by decide) (Bu _) h3) (gc bQa (gc (atm aB h2) (gc (ixn aB h2) (gc (eJ h1) (g0 h0))))))))))))))
theorem aXi{R:List (List Cel)}{o:List Cel}{Aa:List UInt8}(h2:(aJ k)[i]? = some 2)(h3:fs[i]? = some (Aa))(h4:cn i)(h5:((aR ln (((i+1):Nat):Int) ((rdM 2 Aa).2) (l1,f1,e1)).2.2)≠0)(A6:Cc=((aR ln (((i+1):Nat):Int) ((rdM 2 Aa).2) (l1,f1,e1)).1))(A7:Cb=((aR ln (((i+1):Nat):Int) ((rdM 2 Aa).2) (l1,f1,e1)).2.1))(A8:B7=((aR ln (((i+1):Nat):Int) ((rdM 2 Aa).2) (l1,f1,e1)).2.2)):aA Tp 4 jU (cY fs ln k R i o.length ((o.map cE).flatten) l1 f1 e1) .ret (cN (cY fs ln k R i o.length ((o.map cE).flatten) Cc Cb B7) [(6,(.p bO)),(7,(pB false))]):=by
 subst A6 A7 A8;have k1:=fk 6 (bGw Aa) rfl;have k2:=mq cg 15 (cS (((i+1):Nat):Int) ((rdM 2 Aa).2) ln k l1 f1 e1 R);exact aA.fi (gN b9 [4,5] [(7,0)]) [bT,bF,.x (aB 2),.x (aD Aa),k1.o,k2.o,bT] (gc (dB (bP h5)) (gc k2 (gc h4 (gc k1 (gt (((fs.map stE).flatten)[(i*1)]? = some (aD Aa)) (aM (E:=stE) (i:=i) (f:=0) (k:=1) (fun _=>rfl) h3 rfl) (gc (bC (E:=stE) (k:=1) (i:=(i:Int)) (fun _=>rfl) (by decide) (Bu _) h3) (gc bQb (gc (atm aB h2) (gc (ixn aB h2) (gc (eJ h1) (g0 h0)))))))))))
theorem aXj{R:List (List Cel)}{o:List Cel}{Aa:List UInt8}{o':List Cel}(h2:(aJ k)[i]? = some 2)(h3:fs[i]? = some (Aa))(h4:cn i)(h5:((aR ln (((i+1):Nat):Int) ((rdM 2 Aa).2) (l1,f1,e1)).2.2)=0)(h6:[(aB ((rdM 2 Aa).1.1)),(aD ((rdM 2 Aa).1.2))].length=1*2∧o.length+1≤1000000)(Aj:i'=(i+1))(Dj:o'.length=(o.length+1))(Dk:(o'.map cE).flatten=(((o.map cE).flatten)++[(aB ((rdM 2 Aa).1.1)),(aD ((rdM 2 Aa).1.2))]))(A6:Cc=((aR ln (((i+1):Nat):Int) ((rdM 2 Aa).2) (l1,f1,e1)).1))(A7:Cb=((aR ln (((i+1):Nat):Int) ((rdM 2 Aa).2) (l1,f1,e1)).2.1))(A8:B7=((aR ln (((i+1):Nat):Int) ((rdM 2 Aa).2) (l1,f1,e1)).2.2)):aA Tp 4 jU (cY fs ln k R i o.length ((o.map cE).flatten) l1 f1 e1) .normal (cY fs ln k R i' o'.length ((o'.map cE).flatten) Cc Cb B7):=by
 subst Aj A6 A7 A8;have k1:=fk 6 (bGw Aa) rfl;have k2:=mq cg 15 (cS (((i+1):Nat):Int) ((rdM 2 Aa).2) ln k l1 f1 e1 R);rw [Dj,Dk];exact aA.fi (gI b8 [4,16]) [bT,bF,.x (aB 2),.x (aD Aa),k1.o,k2.o,bF] (gc h4 (gc h6 (gt ([(aB ((rdM 2 Aa).1.1)),(aD ((rdM 2 Aa).1.2))].length=2) (by first | decide | simp) (gc (aU (dC h5)) (gc k2 (gc h4 (gc k1 (gt (((fs.map stE).flatten)[(i*1)]? = some (aD Aa)) (aM (E:=stE) (i:=i) (f:=0) (k:=1) (fun _=>rfl) h3 rfl) (gc (bC (E:=stE) (k:=1) (i:=(i:Int)) (fun _=>rfl) (by decide) (Bu _) h3) (gc bQb (gc (atm aB h2) (gc (ixn aB h2) (gc (eJ h1) (g0 h0))))))))))))))
theorem aXk{R:List (List Cel)}{o:List Cel}{Aa:List UInt8}(h2:(aJ k)[i]? = some 3)(h3:fs[i]? = some (Aa))(h4:cn i)(h5:((aR ln (((i+1):Nat):Int) ((rdM 3 Aa).2) (l1,f1,e1)).2.2)≠0)(A6:Cc=((aR ln (((i+1):Nat):Int) ((rdM 3 Aa).2) (l1,f1,e1)).1))(A7:Cb=((aR ln (((i+1):Nat):Int) ((rdM 3 Aa).2) (l1,f1,e1)).2.1))(A8:B7=((aR ln (((i+1):Nat):Int) ((rdM 3 Aa).2) (l1,f1,e1)).2.2)):aA Tp 4 jU (cY fs ln k R i o.length ((o.map cE).flatten) l1 f1 e1) .ret (cN (cY fs ln k R i o.length ((o.map cE).flatten) Cc Cb B7) [(6,(.p bO)),(7,(pB false))]):=by
 subst A6 A7 A8;have k1:=fk 6 (bGx Aa) rfl;have k2:=mq cg 15 (cS (((i+1):Nat):Int) ((rdM 3 Aa).2) ln k l1 f1 e1 R);exact aA.fi (gN b9 [4,5] [(7,0)]) [bT,bF,.x (aB 3),.x (aD Aa),k1.o,k2.o,bT] (gc (dB (bP h5)) (gc k2 (gc h4 (gc k1 (gt (((fs.map stE).flatten)[(i*1)]? = some (aD Aa)) (aM (E:=stE) (i:=i) (f:=0) (k:=1) (fun _=>rfl) h3 rfl) (gc (bC (E:=stE) (k:=1) (i:=(i:Int)) (fun _=>rfl) (by decide) (Bu _) h3) (gc bQc (gc (atm aB h2) (gc (ixn aB h2) (gc (eJ h1) (g0 h0)))))))))))
theorem aXl{R:List (List Cel)}{o:List Cel}{Aa:List UInt8}{o':List Cel}(h2:(aJ k)[i]? = some 3)(h3:fs[i]? = some (Aa))(h4:cn i)(h5:((aR ln (((i+1):Nat):Int) ((rdM 3 Aa).2) (l1,f1,e1)).2.2)=0)(h6:[(aB ((rdM 3 Aa).1.1)),(aD ((rdM 3 Aa).1.2))].length=1*2∧o.length+1≤1000000)(Aj:i'=(i+1))(Dj:o'.length=(o.length+1))(Dk:(o'.map cE).flatten=(((o.map cE).flatten)++[(aB ((rdM 3 Aa).1.1)),(aD ((rdM 3 Aa).1.2))]))(A6:Cc=((aR ln (((i+1):Nat):Int) ((rdM 3 Aa).2) (l1,f1,e1)).1))(A7:Cb=((aR ln (((i+1):Nat):Int) ((rdM 3 Aa).2) (l1,f1,e1)).2.1))(A8:B7=((aR ln (((i+1):Nat):Int) ((rdM 3 Aa).2) (l1,f1,e1)).2.2)):aA Tp 4 jU (cY fs ln k R i o.length ((o.map cE).flatten) l1 f1 e1) .normal (cY fs ln k R i' o'.length ((o'.map cE).flatten) Cc Cb B7):=by
 subst Aj A6 A7 A8;have k1:=fk 6 (bGx Aa) rfl;have k2:=mq cg 15 (cS (((i+1):Nat):Int) ((rdM 3 Aa).2) ln k l1 f1 e1 R);rw [Dj,Dk];exact aA.fi (gI b8 [4,16]) [bT,bF,.x (aB 3),.x (aD Aa),k1.o,k2.o,bF] (gc h4 (gc h6 (gt ([(aB ((rdM 3 Aa).1.1)),(aD ((rdM 3 Aa).1.2))].length=2) (by first | decide | simp) (gc (aU (dC h5)) (gc k2 (gc h4 (gc k1 (gt (((fs.map stE).flatten)[(i*1)]? = some (aD Aa)) (aM (E:=stE) (i:=i) (f:=0) (k:=1) (fun _=>rfl) h3 rfl) (gc (bC (E:=stE) (k:=1) (i:=(i:Int)) (fun _=>rfl) (by decide) (Bu _) h3) (gc bQc (gc (atm aB h2) (gc (ixn aB h2) (gc (eJ h1) (g0 h0))))))))))))))
end
theorem aXm{fs:List (List UInt8)}{R:List (List Cel)}{o:List Cel}(h0:((aJ k).length:Int)≤(i:Int)):aA Tp 4 jU (cY fs ln k R i o.length ((o.map cE).flatten) l1 f1 e1) (.exit 0) (cY fs ln k R i o.length ((o.map cE).flatten) l1 f1 e1):=aA.fi (gI b8 [4,5]) [bF] (gc (bL h0) gn)
theorem bUd{fs:List (List UInt8)}{R:List (List Cel)}{u0:List UInt8}(h0:fs[0]? = some (u0))(h1:u0≠([115,117,109]:List UInt8))(Al:r0=((aR ln 1 11 (l,f,e)).1))(Dd:r1=((aR ln 1 11 (l,f,e)).2.1))(D8:r2=((aR ln 1 11 (l,f,e)).2.2)):FMM Tp 93 [(.p (.sl fs.length ((fs.map stE).flatten))),(pI sm),(.fn 176 [] [(.ptr 0 0),(.ptr 1 0)])] [some (.box 156 [(.ptr 2 0)]),some (.box 3 [(pI ln)]),some (.box 158 [(pI k),(.own 3),(pI l),(pI f),(pI e)]),some (.row 78 R.length ((R.map rwE).flatten))] (.tup []) [some (.box 156 [(.ptr 2 0)]),some (.box 3 [(pI ln)]),some (.box 158 [(pI k),(.own 3),(pI r0),(pI r1),(pI r2)]),some (.row 78 R.length ((R.map rwE).flatten))]:=by
 subst Al Dd D8;have k1:=mq cj 4 (cS 1 11 ln k l f e R);exact FMM.fi 4 gE func93 [.x (aD u0),bT,k1.o] (gc k1 (gc (dB (decide_eq_false h1)) (gt (((fs.map stE).flatten)[0]? = some (aD u0)) (aM (E:=stE) (i:=0) (f:=0) (k:=1) (fun _=>rfl) h0 rfl) (gc (bC (E:=stE) (k:=1) (i:=(0:Int)) (fun _=>rfl) (by decide) (by first | decide | simp) h0) gn))))
theorem bUe{fs:List (List UInt8)}{R:List (List Cel)}{u0:List UInt8}(h0:fs[0]? = some (u0))(h1:u0=([115,117,109]:List UInt8))(h2:(fs.length:Int)<2)(Al:r0=((aR ln 2 11 (l,f,e)).1))(Dd:r1=((aR ln 2 11 (l,f,e)).2.1))(D8:r2=((aR ln 2 11 (l,f,e)).2.2)):FMM Tp 93 [(.p (.sl fs.length ((fs.map stE).flatten))),(pI sm),(.fn 176 [] [(.ptr 0 0),(.ptr 1 0)])] [some (.box 156 [(.ptr 2 0)]),some (.box 3 [(pI ln)]),some (.box 158 [(pI k),(.own 3),(pI l),(pI f),(pI e)]),some (.row 78 R.length ((R.map rwE).flatten))] (.tup []) [some (.box 156 [(.ptr 2 0)]),some (.box 3 [(pI ln)]),some (.box 158 [(pI k),(.own 3),(pI r0),(pI r1),(pI r2)]),some (.row 78 R.length ((R.map rwE).flatten))]:=by
 subst Al Dd D8;have k1:=mq cj 4 (cS 2 11 ln k l f e R);exact FMM.fi 4 gE func93 [.x (aD u0),bF,bT,k1.o] (gc k1 (gc (cP h2) (gc (aU (decide_eq_true h1)) (gt (((fs.map stE).flatten)[0]? = some (aD u0)) (aM (E:=stE) (i:=0) (f:=0) (k:=1) (fun _=>rfl) h0 rfl) (gc (bC (E:=stE) (k:=1) (i:=(0:Int)) (fun _=>rfl) (by decide) (by first | decide | simp) h0) gn)))))
section
variable{fs:List (List UInt8)}{u0 u1:List UInt8}(h0:fs[0]? = some (u0))(h1:u0=([115,117,109]:List UInt8))(h2:(2:Int)≤(fs.length:Int))(h3:fs[1]? = some (u1))(h4:0≤(65520:Int)∧(65520:Int)≤1000000000)
include h0 h1 h2 h3 h4
theorem bUf{R:List (List Cel)}(h5:((bJ u1 65520).2)=3)(h6:((aR ln 2 8 (l,f,e)).2.2)≠0)(Al:r0=((aR ln 2 8 (l,f,e)).1))(Dd:r1=((aR ln 2 8 (l,f,e)).2.1))(D8:r2=((aR ln 2 8 (l,f,e)).2.2)):FMM Tp 93 [(.p (.sl fs.length ((fs.map stE).flatten))),(pI sm),(.fn 176 [] [(.ptr 0 0),(.ptr 1 0)])] [some (.box 156 [(.ptr 2 0)]),some (.box 3 [(pI ln)]),some (.box 158 [(pI k),(.own 3),(pI l),(pI f),(pI e)]),some (.row 78 R.length ((R.map rwE).flatten))] (.tup []) [some (.box 156 [(.ptr 2 0)]),some (.box 3 [(pI ln)]),some (.box 158 [(pI k),(.own 3),(pI r0),(pI r1),(pI r2)]),some (.row 78 R.length ((R.map rwE).flatten))]:=by
 subst Al Dd D8;have k1:=fk 4 (gD u1 65520 h4) rfl;have k2:=mq cj 4 (cS 2 8 ln k l f e R);exact FMM.fi 4 gE func93 ([.x (aD u0),bF,bF,.x (aD u1),k1.o]++rT 5++[k2.o,bF,bF,bF,bF]) (Gm (bP h6) (gc k2 (Cw (dC h5) (gc k1 (gt (((fs.map stE).flatten)[1]? = some (aD u1)) (aM (E:=stE) (i:=1) (f:=0) (k:=1) (fun _=>rfl) h3 rfl) (gc (bC (E:=stE) (k:=1) (i:=(1:Int)) (fun _=>rfl) (by decide) (by first | decide | simp) h3) (gc (bL h2) (gc (aU (decide_eq_true h1)) (gt (((fs.map stE).flatten)[0]? = some (aD u0)) (aM (E:=stE) (i:=0) (f:=0) (k:=1) (fun _=>rfl) h0 rfl) (gc (bC (E:=stE) (k:=1) (i:=(0:Int)) (fun _=>rfl) (by decide) (by first | decide | simp) h0) gn))))))))))
theorem bUg{R:List (List Cel)}(h5:((bJ u1 65520).2)≠3)(h6:((bJ u1 65520).2)=0)(h7:((bJ u1 65520).1)≠sm)(h8:((aR ln 2 8 (l,f,e)).2.2)≠0)(Al:r0=((aR ln 2 8 (l,f,e)).1))(Dd:r1=((aR ln 2 8 (l,f,e)).2.1))(D8:r2=((aR ln 2 8 (l,f,e)).2.2)):FMM Tp 93 [(.p (.sl fs.length ((fs.map stE).flatten))),(pI sm),(.fn 176 [] [(.ptr 0 0),(.ptr 1 0)])] [some (.box 156 [(.ptr 2 0)]),some (.box 3 [(pI ln)]),some (.box 158 [(pI k),(.own 3),(pI l),(pI f),(pI e)]),some (.row 78 R.length ((R.map rwE).flatten))] (.tup []) [some (.box 156 [(.ptr 2 0)]),some (.box 3 [(pI ln)]),some (.box 158 [(pI k),(.own 3),(pI r0),(pI r1),(pI r2)]),some (.row 78 R.length ((R.map rwE).flatten))]:=by
 subst Al Dd D8;have k1:=fk 4 (gD u1 65520 h4) rfl;have k2:=mq cj 4 (cS 2 8 ln k l f e R);exact FMM.fi 4 gE func93 [.x (aD u0),bF,bF,.x (aD u1),k1.o,bF,bF,bF,bT,bT,bT,bF,bT,bF,bT,k2.o,bF,bF,bF,bF] (Gm (bP h8) (gc k2 (gc (fJ h7) (gc (bP h5) (gc (dC h6) (gc (bP h5) (Ay (dC h6) (Ay (bP h5) (gc k1 (gt (((fs.map stE).flatten)[1]? = some (aD u1)) (aM (E:=stE) (i:=1) (f:=0) (k:=1) (fun _=>rfl) h3 rfl) (gc (bC (E:=stE) (k:=1) (i:=(1:Int)) (fun _=>rfl) (by decide) (by first | decide | simp) h3) (gc (bL h2) (gc (aU (decide_eq_true h1)) (gt (((fs.map stE).flatten)[0]? = some (aD u0)) (aM (E:=stE) (i:=0) (f:=0) (k:=1) (fun _=>rfl) h0 rfl) (gc (bC (E:=stE) (k:=1) (i:=(0:Int)) (fun _=>rfl) (by decide) (by first | decide | simp) h0) gn)))))))))))))))
theorem bUh{R:List (List Cel)}(h5:((bJ u1 65520).2)≠3)(h6:((bJ u1 65520).2)=0)(h7:((bJ u1 65520).1)=sm)(h8:((aR ln 2 ((bJ u1 65520).2) (l,f,e)).2.2)=0)(h9:(2:Int)<(fs.length:Int))(Al:r0=((aR ln 3 11 (((aR ln 2 ((bJ u1 65520).2) (l,f,e)).1),((aR ln 2 ((bJ u1 65520).2) (l,f,e)).2.1),((aR ln 2 ((bJ u1 65520).2) (l,f,e)).2.2))).1))(Dd:r1=((aR ln 3 11 (((aR ln 2 ((bJ u1 65520).2) (l,f,e)).1),((aR ln 2 ((bJ u1 65520).2) (l,f,e)).2.1),((aR ln 2 ((bJ u1 65520).2) (l,f,e)).2.2))).2.1))(D8:r2=((aR ln 3 11 (((aR ln 2 ((bJ u1 65520).2) (l,f,e)).1),((aR ln 2 ((bJ u1 65520).2) (l,f,e)).2.1),((aR ln 2 ((bJ u1 65520).2) (l,f,e)).2.2))).2.2)):FMM Tp 93 [(.p (.sl fs.length ((fs.map stE).flatten))),(pI sm),(.fn 176 [] [(.ptr 0 0),(.ptr 1 0)])] [some (.box 156 [(.ptr 2 0)]),some (.box 3 [(pI ln)]),some (.box 158 [(pI k),(.own 3),(pI l),(pI f),(pI e)]),some (.row 78 R.length ((R.map rwE).flatten))] (.tup []) [some (.box 156 [(.ptr 2 0)]),some (.box 3 [(pI ln)]),some (.box 158 [(pI k),(.own 3),(pI r0),(pI r1),(pI r2)]),some (.row 78 R.length ((R.map rwE).flatten))]:=by
 subst Al Dd D8;have k1:=fk 4 (gD u1 65520 h4) rfl;have k2:=mq cj 4 (cS 2 ((bJ u1 65520).2) ln k l f e R);have k3:=mq cj 4 (cS 3 11 ln k ((aR ln 2 ((bJ u1 65520).2) (l,f,e)).1) ((aR ln 2 ((bJ u1 65520).2) (l,f,e)).2.1) ((aR ln 2 ((bJ u1 65520).2) (l,f,e)).2.2) R);exact FMM.fi 4 gE func93 ([.x (aD u0),bF,bF,.x (aD u1),k1.o,bF,bF,bF,bT,bT,bT,bF,bT,bF,bF,k2.o]++rT 5++[k3.o]) (gc k3 (gc (cP h9) (Gm (dC h8) (gc k2 (gc (bK h7) (gc (bP h5) (gc (dC h6) (gc (bP h5) (Ay (dC h6) (Ay (bP h5) (gc k1 (gt (((fs.map stE).flatten)[1]? = some (aD u1)) (aM (E:=stE) (i:=1) (f:=0) (k:=1) (fun _=>rfl) h3 rfl) (gc (bC (E:=stE) (k:=1) (i:=(1:Int)) (fun _=>rfl) (by decide) (by first | decide | simp) h3) (gc (bL h2) (gc (aU (decide_eq_true h1)) (gt (((fs.map stE).flatten)[0]? = some (aD u0)) (aM (E:=stE) (i:=0) (f:=0) (k:=1) (fun _=>rfl) h0 rfl) (gc (bC (E:=stE) (k:=1) (i:=(0:Int)) (fun _=>rfl) (by decide) (by first | decide | simp) h0) gn)))))))))))))))))
theorem bUi{R:List (List Cel)}(h5:((bJ u1 65520).2)≠3)(h6:((bJ u1 65520).2)=0)(h7:((bJ u1 65520).1)=sm)(h8:((aR ln 2 ((bJ u1 65520).2) (l,f,e)).2.2)=0)(h9:(fs.length:Int)≤2)(Al:r0=((aR ln 2 ((bJ u1 65520).2) (l,f,e)).1))(Dd:r1=((aR ln 2 ((bJ u1 65520).2) (l,f,e)).2.1))(D8:r2=((aR ln 2 ((bJ u1 65520).2) (l,f,e)).2.2)):FMM Tp 93 [(.p (.sl fs.length ((fs.map stE).flatten))),(pI sm),(.fn 176 [] [(.ptr 0 0),(.ptr 1 0)])] [some (.box 156 [(.ptr 2 0)]),some (.box 3 [(pI ln)]),some (.box 158 [(pI k),(.own 3),(pI l),(pI f),(pI e)]),some (.row 78 R.length ((R.map rwE).flatten))] (.tup []) [some (.box 156 [(.ptr 2 0)]),some (.box 3 [(pI ln)]),some (.box 158 [(pI k),(.own 3),(pI r0),(pI r1),(pI r2)]),some (.row 78 R.length ((R.map rwE).flatten))]:=by
 subst Al Dd D8;have k1:=fk 4 (gD u1 65520 h4) rfl;have k2:=mq cj 4 (cS 2 ((bJ u1 65520).2) ln k l f e R);exact FMM.fi 4 gE func93 [.x (aD u0),bF,bF,.x (aD u1),k1.o,bF,bF,bF,bT,bT,bT,bF,bT,bF,bF,k2.o,bT,bT,bT,bT,bF] (gc (bL h9) (Gm (dC h8) (gc k2 (gc (bK h7) (gc (bP h5) (gc (dC h6) (gc (bP h5) (Ay (dC h6) (Ay (bP h5) (gc k1 (gt (((fs.map stE).flatten)[1]? = some (aD u1)) (aM (E:=stE) (i:=1) (f:=0) (k:=1) (fun _=>rfl) h3 rfl) (gc (bC (E:=stE) (k:=1) (i:=(1:Int)) (fun _=>rfl) (by decide) (by first | decide | simp) h3) (gc (bL h2) (gc (aU (decide_eq_true h1)) (gt (((fs.map stE).flatten)[0]? = some (aD u0)) (aM (E:=stE) (i:=0) (f:=0) (k:=1) (fun _=>rfl) h0 rfl) (gc (bC (E:=stE) (k:=1) (i:=(0:Int)) (fun _=>rfl) (by decide) (by first | decide | simp) h0) gn))))))))))))))))
theorem bMc{R:List (List Cel)}(h5:((bJ u1 65520).2)≠3)(h6:((bJ u1 65520).2)≠0)(h7:((aR ln 2 ((bJ u1 65520).2) (l,f,e)).2.2)≠0)(Al:r0=((aR ln 2 ((bJ u1 65520).2) (l,f,e)).1))(Dd:r1=((aR ln 2 ((bJ u1 65520).2) (l,f,e)).2.1))(D8:r2=((aR ln 2 ((bJ u1 65520).2) (l,f,e)).2.2)):FMM Tp 93 [(.p (.sl fs.length ((fs.map stE).flatten))),(pI sm),(.fn 176 [] [(.ptr 0 0),(.ptr 1 0)])] [some (.box 156 [(.ptr 2 0)]),some (.box 3 [(pI ln)]),some (.box 158 [(pI k),(.own 3),(pI l),(pI f),(pI e)]),some (.row 78 R.length ((R.map rwE).flatten))] (.tup []) [some (.box 156 [(.ptr 2 0)]),some (.box 3 [(pI ln)]),some (.box 158 [(pI k),(.own 3),(pI r0),(pI r1),(pI r2)]),some (.row 78 R.length ((R.map rwE).flatten))]:=by
 subst Al Dd D8;have k1:=fk 4 (gD u1 65520 h4) rfl;have k2:=mq cj 4 (cS 2 ((bJ u1 65520).2) ln k l f e R);exact FMM.fi 4 gE func93 ([.x (aD u0),bF,bF,.x (aD u1),k1.o]++rF 9++[k2.o,bF,bF,bF,bF]) (Gm (bP h7) (gc k2 (gc (bP h5) (gc (bP h6) (gc (bP h5) (Ay (bP h6) (Ay (bP h5) (gc k1 (gt (((fs.map stE).flatten)[1]? = some (aD u1)) (aM (E:=stE) (i:=1) (f:=0) (k:=1) (fun _=>rfl) h3 rfl) (gc (bC (E:=stE) (k:=1) (i:=(1:Int)) (fun _=>rfl) (by decide) (by first | decide | simp) h3) (gc (bL h2) (gc (aU (decide_eq_true h1)) (gt (((fs.map stE).flatten)[0]? = some (aD u0)) (aM (E:=stE) (i:=0) (f:=0) (k:=1) (fun _=>rfl) h0 rfl) (gc (bC (E:=stE) (k:=1) (i:=(0:Int)) (fun _=>rfl) (by decide) (by first | decide | simp) h0) gn))))))))))))))
end
def rdL:List Int→List (List UInt8)→Nat→List Cel ⊕ (Int × Int)
 | [],_,_ => .inl []
 | _::_,[],i => .inr (((i+1:Nat):Int),11)
 | t::ts,u::us,i=>if (rdM t u).2≠0 then .inr (((i+1:Nat):Int),(rdM t u).2) else match rdL ts us (i+1) with
  | .inl cs => .inl ((rdM t u).1::cs)
  | .inr p => .inr p
theorem uO{k:Int}{fs:List (List UInt8)}(ln:Int)(R:List (List Cel))(l f:Int)(hf:∀ u∈fs,u.length≤90000):∀ (ts:List Int) (us:List (List UInt8)) (i:Nat) (o:List Cel),(aJ k).drop i=ts→fs.drop i=us→i≤(aJ k).length→i≤fs.length→o.length=i →
  (∃ cs,rdL ts us i = .inl cs∧aF Tp 4 jU (cY fs ln k R i o.length ((o.map cE).flatten) l f 0) (.exit 0) (cY fs ln k R (aJ k).length (o++cs).length (((o++cs).map cE).flatten) l f 0)) ∨
  (∃ fd er j o',rdL ts us i = .inr (fd,er)∧er≠0∧aF Tp 4 jU (cY fs ln k R i o.length ((o.map cE).flatten) l f 0) .ret (cN (cY fs ln k R j o'.length ((List.map cE o').flatten) ln fd er) [(6,(.p bO)),(7,(pB false))]))
 | [],us,i,o,ht,hu,hi,hj,ho=>by
  have hl:(aJ k).length≤i:=List.drop_eq_nil_iff.1 ht;have:i=(aJ k).length:=by omega
  subst this;exact .inl ⟨[],rfl,by rw [List.append_nil];exact .exit (aXm (by omega)) (by simp)⟩
 | t::ts,[],i,o,ht,hu,hi,hj,ho=>by
  have hc:=jW k;have hl:=congrArg List.length ht;rw [xV,eY] at hl
  have Bp:fs.length≤i:=List.drop_eq_nil_iff.1 hu;have e:=Ep (er:=11) ln (((i+1:Nat)):Int) l f (by decide)
  have:=aXd (fs:=fs) (ln:=ln) (k:=k) (R:=R) (i:=i) (o:=o) (l1:=l) (f1:=f) (e1:=0) (by omega) (by omega) (aV (by omega)) rfl rfl rfl
  rw [e] at this
  exact .inr ⟨_,11,i,o,rfl,by decide,.exit this (by simp)⟩
 | t::ts,u::us,i,o,ht,hu,hi,hj,ho=>by
  have hc:=jW k;have hl:=congrArg List.length ht;rw [xV,eY] at hl
  have Bp:=congrArg List.length hu;rw [xV,eY] at Bp
  have h1:(aJ k)[i]? = some t:=by
   have:=congrArg (fun l:List Int=>l[0]?) ht
   simpa using this
  have h2:fs[i]? = some u:=by
   have:=congrArg (fun l:List (List UInt8)=>l[0]?) hu
   simpa using this
  have Oo:=hf u (Cj h2);have I5:(aJ k).drop (i+1)=ts:=by
   have:=congrArg List.tail ht;rw [List.tail_drop] at this;exact this
  have Px:fs.drop (i+1)=us:=by
   have:=congrArg List.tail hu;rw [List.tail_drop] at this;exact this
  unfold rdL
  by_cases hz:(rdM t u).2=0
  ·rw [if_neg (by simp [hz])]
   have hs:aA Tp 4 jU (cY fs ln k R i o.length ((o.map cE).flatten) l f 0) .normal (cY fs ln k R (i+1) (o++[(rdM t u).1]).length (((o++[(rdM t u).1]).map cE).flatten) l f 0):=by
    rcases iP h1 with rfl | rfl | rfl | rfl
    ·exact aXf (by omega) (by omega) h1 h2 (aV (by omega)) (by rw [hz];rfl) ⟨rfl,by omega⟩ rfl (by simp) (by simp [cE]) (by rw [hz];rfl) (by rw [hz];rfl) (by rw [hz];rfl)
    ·exact aXh (by omega) (by omega) h1 h2 Oo (aV (by omega)) (by rw [hz];rfl) ⟨rfl,by omega⟩ rfl (by simp) (by simp [cE]) (by rw [hz];rfl) (by rw [hz];rfl) (by rw [hz];rfl)
    ·exact aXj (by omega) (by omega) h1 h2 (aV (by omega)) (by rw [hz];rfl) ⟨rfl,by omega⟩ rfl (by simp) (by simp [cE]) (by rw [hz];rfl) (by rw [hz];rfl) (by rw [hz];rfl)
    ·exact aXl (by omega) (by omega) h1 h2 (aV (by omega)) (by rw [hz];rfl) ⟨rfl,by omega⟩ rfl (by simp) (by simp [cE]) (by rw [hz];rfl) (by rw [hz];rfl) (by rw [hz];rfl)
   rcases uO ln R l f hf ts us (i+1) (o++[(rdM t u).1]) I5 Px (by omega) (by omega) (by simp;omega) with ⟨cs,q1,q2⟩ | ⟨fd,er,j,o',q1,q2,q3⟩
   ·rw [q1]
    refine .inl ⟨_,rfl,?_⟩;rw [List.append_cons];exact .step hs q2
   ·rw [q1]
    exact .inr ⟨fd,er,j,o',rfl,q2,.step hs q3⟩
  ·rw [if_pos hz]
   have e:=Ep ln (((i+1:Nat)):Int) l f hz;refine .inr ⟨_,_,i,o,rfl,hz,?_⟩;have hx:∀ (P:Int × Int × Int→Prop),P (aR ln (((i+1:Nat)):Int) (rdM t u).2 (l,f,0))→P (ln,(((i+1:Nat)):Int),(rdM t u).2):=fun P h=>by rw [e] at h;exact h
   refine hx (fun q=>aF Tp 4 jU (cY fs ln k R i o.length ((o.map cE).flatten) l f 0) .ret (cN (cY fs ln k R i o.length ((List.map cE o).flatten) q.1 q.2.1 q.2.2) [(6,(.p bO)),(7,(pB false))])) ?_
   rcases iP h1 with rfl | rfl | rfl | rfl
   ·exact .exit (aXe (by omega) (by omega) h1 h2 (aV (by omega)) (by rw [e];exact hz) rfl rfl rfl) (by simp)
   ·exact .exit (aXg (by omega) (by omega) h1 h2 Oo (aV (by omega)) (by rw [e];exact hz) rfl rfl rfl) (by simp)
   ·exact .exit (aXi (by omega) (by omega) h1 h2 (aV (by omega)) (by rw [e];exact hz) rfl rfl rfl) (by simp)
   ·exact .exit (aXk (by omega) (by omega) h1 h2 (aV (by omega)) (by rw [e];exact hz) rfl rfl rfl) (by simp)
theorem lD{k:Int}{fs:List (List UInt8)}{cs:List Cel}(ln:Int)(R:List (List Cel))(l f:Int)(hf:∀ u∈fs,u.length≤90000)(h:rdL (aJ k) fs 0 = .inl cs)(hl:fs.length=(aJ k).length):FMM Tp 91 [.ptr 0 0,.p (.sl fs.length ((fs.map stE).flatten)),.fn 176 [] [.ptr 2 0,.ptr 3 0]] [some (.box 158 [(pI k),(.own 1),(pI l),(pI f),(pI 0)]),some (.row 78 R.length ((R.map rwE).flatten)),some (.box 156 [(.ptr 0 0)]),some (.box 3 [(pI ln)])] (.tup [.own 4,.p (blP true)]) [some (.box 158 [(pI k),(.own 1),(pI l),(pI f),(pI 0)]),some (.row 78 R.length ((R.map rwE).flatten)),some (.box 156 [(.ptr 0 0)]),some (.box 3 [(pI ln)]),some (.row 80 cs.length ((cs.map cE).flatten))]:=by
 rcases uO ln R l f hf (aJ k) fs 0 [] rfl rfl (by omega) (by omega) rfl with ⟨Bh,q1,q2⟩ | ⟨fd,er,j,o',q1,_,_⟩
 ·rw [q1] at h;cases h
  exact bUa q2 (by omega)
 ·rw [q1] at h;cases h
theorem aKd{k:Int}{fs:List (List UInt8)}{cs:List Cel}(ln:Int)(R:List (List Cel))(l f:Int)(hf:∀ u∈fs,u.length≤90000)(h:rdL (aJ k) fs 0 = .inl cs)(hl:fs.length≠(aJ k).length):FMM Tp 91 [.ptr 0 0,.p (.sl fs.length ((fs.map stE).flatten)),.fn 176 [] [.ptr 2 0,.ptr 3 0]] [some (.box 158 [(pI k),(.own 1),(pI l),(pI f),(pI 0)]),some (.row 78 R.length ((R.map rwE).flatten)),some (.box 156 [(.ptr 0 0)]),some (.box 3 [(pI ln)])] (.tup [.own 4,.p (blP false)]) [some (.box 158 [(pI k),(.own 1),(pI ln),(pI (((aJ k).length+1:Nat):Int)),(pI 11)]),some (.row 78 R.length ((R.map rwE).flatten)),some (.box 156 [(.ptr 0 0)]),some (.box 3 [(pI ln)]),some (.row 80 cs.length ((cs.map cE).flatten))]:=by
 have hc:=jW k
 rcases uO ln R l f hf (aJ k) fs 0 [] rfl rfl (by omega) (by omega) rfl with ⟨Bh,q1,q2⟩ | ⟨fd,er,j,o',q1,_,_⟩
 ·rw [q1] at h;cases h
  exact bUb q2 (by omega) (aV (by omega)) rfl rfl rfl rfl
 ·rw [q1] at h;cases h
theorem aRs{k:Int}{fs:List (List UInt8)}{fd er:Int}(ln:Int)(R:List (List Cel))(l f:Int)(hf:∀ u∈fs,u.length≤90000)(h:rdL (aJ k) fs 0 = .inr (fd,er)):er≠0∧FMM Tp 91 [.ptr 0 0,.p (.sl fs.length ((fs.map stE).flatten)),.fn 176 [] [.ptr 2 0,.ptr 3 0]] [some (.box 158 [(pI k),(.own 1),(pI l),(pI f),(pI 0)]),some (.row 78 R.length ((R.map rwE).flatten)),some (.box 156 [(.ptr 0 0)]),some (.box 3 [(pI ln)])] (.tup [.p bO,.p (blP false)]) [some (.box 158 [(pI k),(.own 1),(pI ln),(pI fd),(pI er)]),some (.row 78 R.length ((R.map rwE).flatten)),some (.box 156 [(.ptr 0 0)]),some (.box 3 [(pI ln)])]:=by
 rcases uO ln R l f hf (aJ k) fs 0 [] rfl rfl (by omega) (by omega) rfl with ⟨Bh,q1,q2⟩ | ⟨fd',er',j,o',q1,hz,q2⟩
 ·rw [q1] at h;cases h
 ·rw [q1] at h;cases h
  have hb:(er == 0)=false:=by simpa using hz
  refine ⟨hz,?_⟩;have:=bUc (k:=k) (l:=l) (f:=f) (e:=0) (r0:=(er == 0)) (by rw [hb];exact q2) rfl
  rw [hb] at this
  exact this
def lsC(fs:List (List UInt8))(sm:Int):Int:=if (bJ (fld fs 1) 65520).2=3∨((bJ (fld fs 1) 65520).2=0∧(bJ (fld fs 1) 65520).1≠sm) then 8 else (bJ (fld fs 1) 65520).2
def lsM(fs:List (List UInt8))(sm:Int):Int × Int:=if fld fs 0≠[115,117,109] then (1,11) else if fs.length<2 then (2,11) else if lsC fs sm≠0 then (2,lsC fs sm) else if 2<fs.length then (3,11) else (0,0)
theorem bFu(fs:List (List UInt8))(sm ln k l f:Int)(R:List (List Cel))(h0:0<fs.length):FMM Tp 93 [.p (.sl fs.length ((fs.map stE).flatten)),.p (aB sm),.fn 176 [] [.ptr 0 0,.ptr 1 0]] [some (.box 156 [(.ptr 2 0)]),some (.box 3 [(pI ln)]),some (.box 158 [(pI k),(.own 3),(pI l),(pI f),(pI 0)]),some (.row 78 R.length ((R.map rwE).flatten))] (.tup []) [some (.box 156 [(.ptr 2 0)]),some (.box 3 [(pI ln)]),some (.box 158 [(pI k),(.own 3),(pI ((aR ln (lsM fs sm).1 (lsM fs sm).2 (l,f,0)).1)),(pI ((aR ln (lsM fs sm).1 (lsM fs sm).2 (l,f,0)).2.1)),(pI ((aR ln (lsM fs sm).1 (lsM fs sm).2 (l,f,0)).2.2))]),some (.row 78 R.length ((R.map rwE).flatten))]:=by
 have f0:=aAk (fs:=fs) (j:=0) h0;unfold lsM
 by_cases h1:fld fs 0=[115,117,109]
 ·rw [if_neg (by simp [h1])]
  by_cases h2:fs.length<2
  ·rw [if_pos h2]
   exact bUe f0 h1 (by omega) rfl rfl rfl
  ·rw [if_neg h2]
   have f1:=aAk (fs:=fs) (j:=1) (by omega)
   have t1:∀ fd er,er≠0→aR ln fd er (l,f,0)=(ln,fd,er):=fun fd er h=>Ep ln fd l f h
   by_cases h3:(bJ (fld fs 1) 65520).2=3
   ·have ec:lsC fs sm=8:=if_pos (.inl h3)
    rw [if_pos (by rw [ec];decide),ec]
    exact bUf f0 h1 (by omega) f1 (by omega) h3 (by rw [t1 _ _ (by decide)];simp) rfl rfl rfl
   ·by_cases h4:(bJ (fld fs 1) 65520).2=0
    ·by_cases h5:(bJ (fld fs 1) 65520).1=sm
     ·have ec:lsC fs sm=0:=by unfold lsC;rw [if_neg (by simp [h4,h5])];exact h4
      rw [if_neg (by rw [ec];simp)]
      by_cases h6:2<fs.length
      ·rw [if_pos h6]
       have:=bUh (k:=k) (l:=l) (f:=f) (e:=0) (ln:=ln) (R:=R) f0 h1 (by omega) f1 (by omega) h3 h4 h5 (by rw [h4];rfl) (by omega) rfl rfl rfl
       rw [h4] at this
       exact this
      ·rw [if_neg h6]
       have:=bUi (k:=k) (l:=l) (f:=f) (e:=0) (ln:=ln) (R:=R) f0 h1 (by omega) f1 (by omega) h3 h4 h5 (by rw [h4];rfl) (by omega) rfl rfl rfl
       rw [h4] at this
       exact this
     ·have ec:lsC fs sm=8:=if_pos (.inr ⟨h4,h5⟩)
      rw [if_pos (by rw [ec];decide),ec]
      exact bUg f0 h1 (by omega) f1 (by omega) h3 h4 h5 (by rw [t1 _ _ (by decide)];simp) rfl rfl rfl
    ·have ec:lsC fs sm=(bJ (fld fs 1) 65520).2:=if_neg (by simp [h3,h4])
     rw [if_pos (by rw [ec];exact h4),ec]
     exact bMc f0 h1 (by omega) f1 (by omega) h3 h4 (by rw [t1 _ _ h4];exact h4) rfl rfl rfl
 ·rw [if_pos h1]
  exact bUd f0 h1 rfl rfl rfl
end
end KV
end Go.Proofs
section
namespace Go.Proofs
open Go.RowKit
namespace KV
open Tryz
def aL(s sep:List UInt8):List (List UInt8):=Lib.splitK sep 0 (Lib.countB ⟨s.toArray⟩ ⟨sep.toArray⟩) s
theorem cDs(s sep:List UInt8):(Lib.splitB ⟨sep.toArray⟩ 0 (Lib.countB ⟨s.toArray⟩ ⟨sep.toArray⟩) ⟨s.toArray⟩).map (·.data.toList)=aL s sep:=by
 rw [Lib.splitB_data];rfl
theorem bHl(w:World)(arr:Array Value)(ty:TypeId)(i:Nat):(w.alloc (.cells arr ty)).cell? ⟨w.heap.size,i,none⟩=arr[i]? := by
 unfold World.cell?;simp [World.alloc,-World.alloc_eq]
theorem aKp{w:World}{o:Obj}:Below w.heap.size w (w.alloc o):=⟨rfl,rfl,rfl,by simp [World.alloc,-World.alloc_eq],fun b hb=>by simp [World.alloc,-World.alloc_eq,Array.getElem?_push];omega⟩
theorem eE(s sep:List UInt8)(h:s.length<4294967281)(h1:1≤sep.length){base:Nat}:FV Tp 29 [.p (aD s),.p (aD sep)] base (.p (.sl (aL s sep).length (((aL s sep).map stE).flatten))) []:=FV.ofc rfl fun C w us hus hM=>by
 obtain rfl:=Gl rfl rfl hus;obtain ⟨m,hm⟩:=(aFe hM.lib).1;refine (Tryz.strings_Split ⟨s.toArray⟩ ⟨sep.toArray⟩ m w (by rw [Lib.size_eq];exact h) hm (by rw [Lib.size_eq];exact h1)).mono ?_
 rintro e w' ⟨rfl,rfl⟩;have hl:=Lib.splitB_all ⟨sep.toArray⟩ (by rw [Lib.size_eq];exact h1) 0 _ ⟨s.toArray⟩ rfl
 have hs:=cDs s sep;have hc:Lib.countB ⟨s.toArray⟩ ⟨sep.toArray⟩≤s.length:=by
  have:=Lib.countB_le ⟨sep.toArray⟩ (by rw [Lib.size_eq];exact h1) _ ⟨s.toArray⟩ (Bb _)
  rw [Lib.size_eq] at this;exact this
 generalize Lib.splitB ⟨sep.toArray⟩ 0 (Lib.countB ⟨s.toArray⟩ ⟨sep.toArray⟩) ⟨s.toArray⟩=L at hl hs ⊢
 rw [← hs,mE,hl,jO];generalize Lib.countB ⟨s.toArray⟩ ⟨sep.toArray⟩=n at hl hc
 refine ⟨_,rfl,aKp,.p _ _ (.sl _ _ _ _ (fun i=>((L.map Value.string).toArray)[i]?.getD undef) (Bb _) ?_ (fun i hi => ?_) (fun i hi => ?_) (fun i hi => ?_))⟩
 ·simp only [maxLen];omega
 ·refine ⟨_,_,rfl,.inr ⟨Bb _,by simp [World.alloc,-World.alloc_eq],by simp⟩,?_⟩
  rw [bHl];have:i<((L.map Value.string).toArray).size:=by simpa using hi
  simp [jB,rR this]
 ·have Et:i<L.length:=by simpa using hi
  rw [gY,gY];simp only [List.getElem?_toArray,uM,B3 Et,Option.map_some,Option.getD_some];exact .v _
 ·have Et:i<L.length:=by simpa using hi
  simp only [List.getElem?_toArray,uM,B3 Et,Option.map_some,Option.getD_some];rfl
end KV
end Go.Proofs
end
namespace Go.Proofs
namespace KV
open Tryz
section
variable {j k Bg Ch:Int}{i i' Aq base:Nat}

noncomputable abbrev aDt:Code:=sub (cd Tryz.f107) [1,1,0,1,0,0]
noncomputable abbrev aDu:Code:=sub (cd Tryz.f167) [1,1,0,1,0,0]
noncomputable abbrev aDv:Code:=sub (cd Tryz.f46) [1,1,0,1,0,0]
noncomputable abbrev aDw:Code:=sub (cd Tryz.f117) [1,1,0,1,0,0]
theorem bMb{b t g:Int}:FV Tp 87 [(pI b),(pI t),(pI g)] base (.p (.sl 3 [(aB b),(aD ([]:List UInt8)),(aB t),(aD ([]:List UInt8)),(aB g),(aD ([]:List UInt8))])) []:=FV.frz (FMM.fi 0 ⟨[],[],[0],[]⟩ func87 [] gn) (by kernel_rfl)
theorem rH(b t g:Int){base:Nat}:FV Tp 87 [.p (aB b),.p (aB t),.p (aB g)] base (.p (.sl ([(b,[]),(t,[]),(g,[])]:List Cel).length ((([(b,[]),(t,[]),(g,[])]:List Cel).map cE).flatten))) []:=bMb
theorem dZ{α β:Type}{l:List α}{x:List β}{j:Nat}{p:α × β}(h:(l.zip x)[j]? = some p):l[j]? = some p.1∧x[j]? = some p.2:=by
 rw [List.zip,List.getElem?_zipWith] at h
 cases h1:l[j]? with
 | none=>rw [h1] at h;simp at h
 | some t =>
  cases h2:x[j]? with
  | none=>rw [h1,h2] at h;simp at h
  | some c=>rw [h1,h2] at h;simp at h;subst h;exact ⟨rfl,rfl⟩
theorem jE{α:Type}[DecidableEq α]:∀ (r t:List α),r.length=t.length→(r.zip t).any (fun q => !(decide (q.1=q.2)))=false→r=t
 | [],[],_,_=>rfl
 | a::r,b::t,hl,h=>by
  simp only [List.zip_cons_cons,List.any_cons,Bool.or_eq_false_iff,Bool.not_eq_false',decide_eq_true_eq] at h
  rw [h.1,jE r t (by simpa using hl) h.2]
 | [],_::_,hl,_=>by simp at hl
 | _::_,[],hl,_=>by simp at hl
theorem vX{a b:Int}{z y:List UInt8}:(decide (a=b) && (decide (z=y) && true))=decide (((a,z):Cel)=(b,y)):=by
 by_cases h:a=b <;> by_cases h2:z=y <;> simp [h,h2]
def jF(r t:List Cel)(i:Nat):St:=⟨fr 26 [(0,(.p (.sl r.length ((r.map cE).flatten)))),(1,(.p (.sl t.length ((t.map cE).flatten)))),(12,(pI (r.length:Int))),(13,(pI (i:Int)))],[]⟩
theorem bTj{r t:List Cel}(h0:(r.length:Int)≠(t.length:Int)):FV Tp 107 [(.p (.sl r.length ((r.map cE).flatten))),(.p (.sl t.length ((t.map cE).flatten)))] base (pB false) []:=FV.fi func107 [bT] (gc (fJ h0) gn)
theorem bTk{r t:List Cel}(h0:(r.length:Int)=(t.length:Int))(An:aF Tp 0 aDt (jF r t 0) (.exit 0) (jF r t Aq)):FV Tp 107 [(.p (.sl r.length ((r.map cE).flatten))),(.p (.sl t.length ((t.map cE).flatten)))] base (pB true) []:=FV.fi func107 [bF,An.k 4 (gZ bv)] (gc An.code (gc (bK h0) gn))
theorem bTl{r t:List Cel}(h0:(r.length:Int)=(t.length:Int))(An:aF Tp 0 aDt (jF r t 0) .ret (cN (jF r t Aq) [(4,(pB false))])):FV Tp 107 [(.p (.sl r.length ((r.map cE).flatten))),(.p (.sl t.length ((t.map cE).flatten)))] base (pB false) []:=FV.fi func107 [bF,An.k 4 (gZ bv)] (gc An.code (gc (bK h0) gn))
section
variable{r t:List Cel}{Bi B0:List UInt8}(h0:(i:Int)<(r.length:Int))(h1:r[i]? = some (Bg,Bi))(h2:t[i]? = some (Ch,B0))
include h0 h1 h2
theorem aWr(h3:(decide (Bg=Ch) && (decide (Bi=B0) && true))=false):aA Tp 0 aDt (jF r t i) .ret (cN (jF r t i) [(4,(pB false))]):=aA.fi (gN bp [] [(4,0)]) [bT,.x (.agg [(aB Bg),(aD Bi)]),.x (.agg [(aB Ch),(aD B0)]),bT] (gc (dB h3) (gc (bG (E:=cE) (i:=i) (k:=2) (fun _=>rfl) h2 rfl) (gc (cG (E:=cE) (i:=i) (k:=2) (fun _=>rfl) h2) (gc (bC (E:=cE) (k:=2) (i:=(i:Int)) (fun _=>rfl) (by decide) (Bu _) h2) (gc (bG (E:=cE) (i:=i) (k:=2) (fun _=>rfl) h1 rfl) (gc (cG (E:=cE) (i:=i) (k:=2) (fun _=>rfl) h1) (gc (bC (E:=cE) (k:=2) (i:=(i:Int)) (fun _=>rfl) (by decide) (Bu _) h1) (g0 h0))))))))
theorem aWs(h3:(decide (Bg=Ch) && (decide (Bi=B0) && true))=true)(h4:cn i)(Aj:i'=(i+1)):aA Tp 0 aDt (jF r t i) .normal (jF r t i'):=by
 subst Aj;exact aA.fi (gZ bv) [bT,.x (.agg [(aB Bg),(aD Bi)]),.x (.agg [(aB Ch),(aD B0)]),bF] (gc h4 (gc (aU h3) (gc (bG (E:=cE) (i:=i) (k:=2) (fun _=>rfl) h2 rfl) (gc (cG (E:=cE) (i:=i) (k:=2) (fun _=>rfl) h2) (gc (bC (E:=cE) (k:=2) (i:=(i:Int)) (fun _=>rfl) (by decide) (Bu _) h2) (gc (bG (E:=cE) (i:=i) (k:=2) (fun _=>rfl) h1 rfl) (gc (cG (E:=cE) (i:=i) (k:=2) (fun _=>rfl) h1) (gc (bC (E:=cE) (k:=2) (i:=(i:Int)) (fun _=>rfl) (by decide) (Bu _) h1) (g0 h0)))))))))
end
theorem aWt{r t:List Cel}(h0:(r.length:Int)≤(i:Int)):aA Tp 0 aDt (jF r t i) (.exit 0) (jF r t i):=aA.fi (gZ bv) [bF] (gc (bL h0) gn)
theorem pZ(r t:List Cel)(h:r.length≤100000){base:Nat}:FV Tp 107 [.p (.sl r.length ((r.map cE).flatten)),.p (.sl t.length ((t.map cE).flatten))] base (pB (decide (r=t))) []:=by
 by_cases hl:r.length=t.length
 ·have hz:(r.zip t).length=r.length:=by rw [List.length_zip,hl,Nat.min_self]
  rcases aF.find (P:=Tp) (k:=0) (b:=aDt) (fun i=>jF r t i) (fun i _=>cN (jF r t i) [(4,.p (blP false))]) (jF r t r.length) .ret (.exit 0) (by simp) (by simp) (fun q:Cel × Cel => !(decide (q.1=q.2))) (r.zip t)
   (fun i q hx hp=>by
    obtain ⟨h1,h2⟩:=dZ hx;have hi:=bN h1;obtain ⟨⟨a,z⟩,b,y⟩:=q;exact aWs (by omega) h1 h2 (by rw [vX];exact (Bool.not_eq_false' _).mp hp) (aV (by omega)) rfl)
   (fun i q hx hp=>by
    obtain ⟨h1,h2⟩:=dZ hx;have hi:=bN h1;obtain ⟨⟨a,z⟩,b,y⟩:=q;exact aWr (by omega) h1 h2 (by rw [vX];exact (Bool.not_eq_true' _).mp hp))
   (by rw [hz];exact aWt (by omega)) with ⟨i,q,h1,h2,h3,h4⟩ | ⟨h1,h2,h3⟩
  ·have hne:decide (r=t)=false:=by
    apply decide_eq_false;intro e;subst e;obtain ⟨q1,q2⟩:=dZ h1;rw [q1] at q2
    have:q.1=q.2:=by simpa using q2
    simp [this] at h3
   rw [hne];exact bTl (by omega) h4
  ·rw [decide_eq_true (jE r t hl h2)];exact bTk (by omega) h3
 ·have hne:decide (r=t)=false:=decide_eq_false (fun e=>hl (by rw [e]))
  rw [hne];exact bTj (by omega)
def jG(r t:List Cel)(i:Nat):St:=⟨fr 26 [(0,(.p (.sl r.length ((r.map cE).flatten)))),(1,(.p (.sl t.length ((t.map cE).flatten)))),(12,(pI (r.length:Int))),(13,(pI (i:Int)))],[]⟩
theorem bTm{r t:List Cel}(h0:(r.length:Int)≠(t.length:Int)):FV Tp 167 [(.p (.sl r.length ((r.map cE).flatten))),(.p (.sl t.length ((t.map cE).flatten)))] base (pB false) []:=FV.fi func167 [bT] (gc (fJ h0) gn)
theorem bTn{r t:List Cel}(h0:(r.length:Int)=(t.length:Int))(An:aF Tp 0 aDu (jG r t 0) (.exit 0) (jG r t Aq)):FV Tp 167 [(.p (.sl r.length ((r.map cE).flatten))),(.p (.sl t.length ((t.map cE).flatten)))] base (pB true) []:=FV.fi func167 [bF,An.k 4 (gZ bv)] (gc An.code (gc (bK h0) gn))
theorem bTo{r t:List Cel}(h0:(r.length:Int)=(t.length:Int))(An:aF Tp 0 aDu (jG r t 0) .ret (cN (jG r t Aq) [(4,(pB false))])):FV Tp 167 [(.p (.sl r.length ((r.map cE).flatten))),(.p (.sl t.length ((t.map cE).flatten)))] base (pB false) []:=FV.fi func167 [bF,An.k 4 (gZ bv)] (gc An.code (gc (bK h0) gn))
section
variable{r t:List Cel}{Bi B0:List UInt8}(h0:(i:Int)<(r.length:Int))(h1:r[i]? = some (Bg,Bi))(h2:t[i]? = some (Ch,B0))
include h0 h1 h2
theorem aWu(h3:(decide (Bg=Ch) && (decide (Bi=B0) && true))=false):aA Tp 0 aDu (jG r t i) .ret (cN (jG r t i) [(4,(pB false))]):=aA.fi (gN bp [] [(4,0)]) [bT,.x (.agg [(aB Bg),(aD Bi)]),.x (.agg [(aB Ch),(aD B0)]),bT] (gc (dB h3) (gc (bG (E:=cE) (i:=i) (k:=2) (fun _=>rfl) h2 rfl) (gc (cG (E:=cE) (i:=i) (k:=2) (fun _=>rfl) h2) (gc (bC (E:=cE) (k:=2) (i:=(i:Int)) (fun _=>rfl) (by decide) (Bu _) h2) (gc (bG (E:=cE) (i:=i) (k:=2) (fun _=>rfl) h1 rfl) (gc (cG (E:=cE) (i:=i) (k:=2) (fun _=>rfl) h1) (gc (bC (E:=cE) (k:=2) (i:=(i:Int)) (fun _=>rfl) (by decide) (Bu _) h1) (g0 h0))))))))
theorem aWv(h3:(decide (Bg=Ch) && (decide (Bi=B0) && true))=true)(h4:cn i)(Aj:i'=(i+1)):aA Tp 0 aDu (jG r t i) .normal (jG r t i'):=by
 subst Aj;exact aA.fi (gZ bv) [bT,.x (.agg [(aB Bg),(aD Bi)]),.x (.agg [(aB Ch),(aD B0)]),bF] (gc h4 (gc (aU h3) (gc (bG (E:=cE) (i:=i) (k:=2) (fun _=>rfl) h2 rfl) (gc (cG (E:=cE) (i:=i) (k:=2) (fun _=>rfl) h2) (gc (bC (E:=cE) (k:=2) (i:=(i:Int)) (fun _=>rfl) (by decide) (Bu _) h2) (gc (bG (E:=cE) (i:=i) (k:=2) (fun _=>rfl) h1 rfl) (gc (cG (E:=cE) (i:=i) (k:=2) (fun _=>rfl) h1) (gc (bC (E:=cE) (k:=2) (i:=(i:Int)) (fun _=>rfl) (by decide) (Bu _) h1) (g0 h0)))))))))
end
theorem aWw{r t:List Cel}(h0:(r.length:Int)≤(i:Int)):aA Tp 0 aDu (jG r t i) (.exit 0) (jG r t i):=aA.fi (gZ bv) [bF] (gc (bL h0) gn)
theorem bFs(r t:List Cel)(h:r.length≤100000){base:Nat}:FV Tp 167 [.p (.sl r.length ((r.map cE).flatten)),.p (.sl t.length ((t.map cE).flatten))] base (pB (decide (r=t))) []:=by
 by_cases hl:r.length=t.length
 ·have hz:(r.zip t).length=r.length:=by rw [List.length_zip,hl,Nat.min_self]
  rcases aF.find (P:=Tp) (k:=0) (b:=aDu) (fun i=>jG r t i) (fun i _=>cN (jG r t i) [(4,.p (blP false))]) (jG r t r.length) .ret (.exit 0) (by simp) (by simp) (fun q:Cel × Cel => !(decide (q.1=q.2))) (r.zip t)
   (fun i q hx hp=>by
    obtain ⟨h1,h2⟩:=dZ hx;have hi:=bN h1;obtain ⟨⟨a,z⟩,b,y⟩:=q;exact aWv (by omega) h1 h2 (by rw [vX];exact (Bool.not_eq_false' _).mp hp) (aV (by omega)) rfl)
   (fun i q hx hp=>by
    obtain ⟨h1,h2⟩:=dZ hx;have hi:=bN h1;obtain ⟨⟨a,z⟩,b,y⟩:=q;exact aWu (by omega) h1 h2 (by rw [vX];exact (Bool.not_eq_true' _).mp hp))
   (by rw [hz];exact aWw (by omega)) with ⟨i,q,h1,h2,h3,h4⟩ | ⟨h1,h2,h3⟩
  ·have hne:decide (r=t)=false:=by
    apply decide_eq_false;intro e;subst e;obtain ⟨q1,q2⟩:=dZ h1;rw [q1] at q2
    have:q.1=q.2:=by simpa using q2
    simp [this] at h3
   rw [hne];exact bTo (by omega) h4
  ·rw [decide_eq_true (jE r t hl h2)];exact bTn (by omega) h3
 ·have hne:decide (r=t)=false:=decide_eq_false (fun e=>hl (by rw [e]))
  rw [hne];exact bTm (by omega)
def jH(r t:List Cel)(i:Nat):St:=⟨fr 26 [(0,(.p (.sl r.length ((r.map cE).flatten)))),(1,(.p (.sl t.length ((t.map cE).flatten)))),(12,(pI (r.length:Int))),(13,(pI (i:Int)))],[]⟩
theorem bTp{r t:List Cel}(h0:(r.length:Int)≠(t.length:Int)):FV Tp 46 [(.p (.sl r.length ((r.map cE).flatten))),(.p (.sl t.length ((t.map cE).flatten)))] base (pB false) []:=FV.fi func46 [bT] (gc (fJ h0) gn)
theorem bTq{r t:List Cel}(h0:(r.length:Int)=(t.length:Int))(An:aF Tp 0 aDv (jH r t 0) (.exit 0) (jH r t Aq)):FV Tp 46 [(.p (.sl r.length ((r.map cE).flatten))),(.p (.sl t.length ((t.map cE).flatten)))] base (pB true) []:=FV.fi func46 [bF,An.k 4 (gZ bv)] (gc An.code (gc (bK h0) gn))
theorem bTr{r t:List Cel}(h0:(r.length:Int)=(t.length:Int))(An:aF Tp 0 aDv (jH r t 0) .ret (cN (jH r t Aq) [(4,(pB false))])):FV Tp 46 [(.p (.sl r.length ((r.map cE).flatten))),(.p (.sl t.length ((t.map cE).flatten)))] base (pB false) []:=FV.fi func46 [bF,An.k 4 (gZ bv)] (gc An.code (gc (bK h0) gn))
section
variable{r t:List Cel}{Bi B0:List UInt8}(h0:(i:Int)<(r.length:Int))(h1:r[i]? = some (Bg,Bi))(h2:t[i]? = some (Ch,B0))
include h0 h1 h2
theorem aWx(h3:(decide (Bg=Ch) && (decide (Bi=B0) && true))=false):aA Tp 0 aDv (jH r t i) .ret (cN (jH r t i) [(4,(pB false))]):=aA.fi (gN bp [] [(4,0)]) [bT,.x (.agg [(aB Bg),(aD Bi)]),.x (.agg [(aB Ch),(aD B0)]),bT] (gc (dB h3) (gc (bG (E:=cE) (i:=i) (k:=2) (fun _=>rfl) h2 rfl) (gc (cG (E:=cE) (i:=i) (k:=2) (fun _=>rfl) h2) (gc (bC (E:=cE) (k:=2) (i:=(i:Int)) (fun _=>rfl) (by decide) (Bu _) h2) (gc (bG (E:=cE) (i:=i) (k:=2) (fun _=>rfl) h1 rfl) (gc (cG (E:=cE) (i:=i) (k:=2) (fun _=>rfl) h1) (gc (bC (E:=cE) (k:=2) (i:=(i:Int)) (fun _=>rfl) (by decide) (Bu _) h1) (g0 h0))))))))
theorem aWy(h3:(decide (Bg=Ch) && (decide (Bi=B0) && true))=true)(h4:cn i)(Aj:i'=(i+1)):aA Tp 0 aDv (jH r t i) .normal (jH r t i'):=by
 subst Aj;exact aA.fi (gZ bv) [bT,.x (.agg [(aB Bg),(aD Bi)]),.x (.agg [(aB Ch),(aD B0)]),bF] (gc h4 (gc (aU h3) (gc (bG (E:=cE) (i:=i) (k:=2) (fun _=>rfl) h2 rfl) (gc (cG (E:=cE) (i:=i) (k:=2) (fun _=>rfl) h2) (gc (bC (E:=cE) (k:=2) (i:=(i:Int)) (fun _=>rfl) (by decide) (Bu _) h2) (gc (bG (E:=cE) (i:=i) (k:=2) (fun _=>rfl) h1 rfl) (gc (cG (E:=cE) (i:=i) (k:=2) (fun _=>rfl) h1) (gc (bC (E:=cE) (k:=2) (i:=(i:Int)) (fun _=>rfl) (by decide) (Bu _) h1) (g0 h0)))))))))
end
theorem aWz{r t:List Cel}(h0:(r.length:Int)≤(i:Int)):aA Tp 0 aDv (jH r t i) (.exit 0) (jH r t i):=aA.fi (gZ bv) [bF] (gc (bL h0) gn)
theorem bFt(r t:List Cel)(h:r.length≤100000){base:Nat}:FV Tp 46 [.p (.sl r.length ((r.map cE).flatten)),.p (.sl t.length ((t.map cE).flatten))] base (pB (decide (r=t))) []:=by
 by_cases hl:r.length=t.length
 ·have hz:(r.zip t).length=r.length:=by rw [List.length_zip,hl,Nat.min_self]
  rcases aF.find (P:=Tp) (k:=0) (b:=aDv) (fun i=>jH r t i) (fun i _=>cN (jH r t i) [(4,.p (blP false))]) (jH r t r.length) .ret (.exit 0) (by simp) (by simp) (fun q:Cel × Cel => !(decide (q.1=q.2))) (r.zip t)
   (fun i q hx hp=>by
    obtain ⟨h1,h2⟩:=dZ hx;have hi:=bN h1;obtain ⟨⟨a,z⟩,b,y⟩:=q;exact aWy (by omega) h1 h2 (by rw [vX];exact (Bool.not_eq_false' _).mp hp) (aV (by omega)) rfl)
   (fun i q hx hp=>by
    obtain ⟨h1,h2⟩:=dZ hx;have hi:=bN h1;obtain ⟨⟨a,z⟩,b,y⟩:=q;exact aWx (by omega) h1 h2 (by rw [vX];exact (Bool.not_eq_true' _).mp hp))
   (by rw [hz];exact aWz (by omega)) with ⟨i,q,h1,h2,h3,h4⟩ | ⟨h1,h2,h3⟩
  ·have hne:decide (r=t)=false:=by
    apply decide_eq_false;intro e;subst e;obtain ⟨q1,q2⟩:=dZ h1;rw [q1] at q2
    have:q.1=q.2:=by simpa using q2
    simp [this] at h3
   rw [hne];exact bTr (by omega) h4
  ·rw [decide_eq_true (jE r t hl h2)];exact bTq (by omega) h3
 ·have hne:decide (r=t)=false:=decide_eq_false (fun e=>hl (by rw [e]))
  rw [hne];exact bTp (by omega)
def jI(R T:List (List Cel))(i:Nat):St:=⟨fr 27 [(0,(.p (.sl R.length (R.map aN)))),(1,(.p (.sl T.length (T.map aN)))),(12,(pI (R.length:Int))),(13,(pI (i:Int)))],[]⟩
theorem bTs{R T:List (List Cel)}(h0:(R.length:Int)≠(T.length:Int)):FV Tp 117 [(.p (.sl R.length (R.map aN))),(.p (.sl T.length (T.map aN)))] base (pB false) []:=FV.fi func117 [bT] (gc (fJ h0) gn)
theorem bTt{R T:List (List Cel)}(h0:(R.length:Int)=(T.length:Int))(An:aF Tp 0 aDw (jI R T 0) (.exit 0) (jI R T Aq)):FV Tp 117 [(.p (.sl R.length (R.map aN))),(.p (.sl T.length (T.map aN)))] base (pB true) []:=FV.fi func117 [bF,An.k 4 (gZ bw)] (gc An.code (gc (bK h0) gn))
theorem bTu{R T:List (List Cel)}(h0:(R.length:Int)=(T.length:Int))(An:aF Tp 0 aDw (jI R T 0) .ret (cN (jI R T Aq) [(4,(pB false))])):FV Tp 117 [(.p (.sl R.length (R.map aN))),(.p (.sl T.length (T.map aN)))] base (pB false) []:=FV.fi func117 [bF,An.k 4 (gZ bw)] (gc An.code (gc (bK h0) gn))
section
variable{R T:List (List Cel)}{Ab A3:List Cel}(h0:(i:Int)<(R.length:Int))(h1:R[i]? = some Ab)(h2:T[i]? = some A3)(h3:Ab.length≤100000)
include h0 h1 h2 h3
theorem aXa(h4:(decide (Ab=A3))=false):aA Tp 0 aDw (jI R T i) .ret (cN (jI R T i) [(4,(pB false))]):=have k1:=fk 0 (bFt Ab A3 h3) rfl;aA.fi (gN [2,2,5,7,14,13] [] [(4,0)]) [bT,.x (.sl Ab.length ((Ab.map cE).flatten)),.x (.sl A3.length ((A3.map cE).flatten)),k1.o,bT] (gc (dB h4) (gc k1 (gc (atm aN h2) (gc (ixn aN h2) (gc (atm aN h1) (gc (ixn aN h1) (g0 h0)))))))
theorem aXb(h4:(decide (Ab=A3))=true)(h5:cn i)(Aj:i'=(i+1)):aA Tp 0 aDw (jI R T i) .normal (jI R T i'):=by
 subst Aj;have k1:=fk 0 (bFt Ab A3 h3) rfl;exact aA.fi (gZ bw) [bT,.x (.sl Ab.length ((Ab.map cE).flatten)),.x (.sl A3.length ((A3.map cE).flatten)),k1.o,bF] (gc h5 (gc (aU h4) (gc k1 (gc (atm aN h2) (gc (ixn aN h2) (gc (atm aN h1) (gc (ixn aN h1) (g0 h0))))))))
end
theorem aXc{R T:List (List Cel)}(h0:(R.length:Int)≤(i:Int)):aA Tp 0 aDw (jI R T i) (.exit 0) (jI R T i):=aA.fi (gZ bw) [bF] (gc (bL h0) gn)
theorem bTv(R T:List (List Cel))(h:R.length≤100000)(h2:∀ r∈R,r.length≤100000){base:Nat}:FV Tp 117 [.p (cD R),.p (cD T)] base (pB (decide (R=T))) []:=by
 by_cases hl:R.length=T.length
 ·have hz:(R.zip T).length=R.length:=by rw [List.length_zip,hl,Nat.min_self]
  rcases aF.find (P:=Tp) (k:=0) (b:=aDw) (fun i=>jI R T i) (fun i _=>cN (jI R T i) [(4,.p (blP false))]) (jI R T R.length) .ret (.exit 0) (by simp) (by simp) (fun q:List Cel × List Cel => !(decide (q.1=q.2))) (R.zip T)
   (fun i q hx hp=>by
    obtain ⟨h1,h3⟩:=dZ hx;have hi:=bN h1;exact aXb (by omega) h1 h3 (h2 _ (Cj h1)) ((Bool.not_eq_false' _).mp hp) (aV (by omega)) rfl)
   (fun i q hx hp=>by
    obtain ⟨h1,h3⟩:=dZ hx;have hi:=bN h1;exact aXa (by omega) h1 h3 (h2 _ (Cj h1)) ((Bool.not_eq_true' _).mp hp))
   (by rw [hz];exact aXc (by omega)) with ⟨i,q,h1,h2,h3,h4⟩ | ⟨h1,h2,h3⟩
  ·have hne:decide (R=T)=false:=by
    apply decide_eq_false;intro e;subst e;obtain ⟨q1,q2⟩:=dZ h1;rw [q1] at q2
    have:q.1=q.2:=by simpa using q2
    simp [this] at h3
   rw [hne];exact bTu (by omega) h4
  ·rw [decide_eq_true (jE R T hl h2)];exact bTt (by omega) h3
 ·have hne:decide (R=T)=false:=decide_eq_false (fun e=>hl (by rw [e]))
  rw [hne];exact bTs (by omega)
theorem bTw{R T:List (List Cel)}{r0:Bool}(h0:k=j)(h1:R.length≤100000)(h2:∀ r∈R,r.length≤100000)(Al:r0=(decide (R=T))):FV Tp 24 [(.p (.agg [(aB k),(.sl R.length (R.map aN))])),(.p (.agg [(aB j),(.sl T.length (T.map aN))]))] base (pB r0) []:=by
 subst Al;have k1:=fk 2 (bTv R T h1 h2) rfl;exact FV.fi func24 (rT 5++[k1.o,bT]) (gc (dC h0) (gc k1 (Cw (dC h0) gn)))
theorem bTx{R T:List (List Cel)}(h0:k≠j):FV Tp 24 [(.p (.agg [(aB k),(.sl R.length (R.map aN))])),(.p (.agg [(aB j),(.sl T.length (T.map aN))]))] base (pB false) []:=FV.fi func24 (rF 6) (Hq (bP h0) gn)
theorem aOc(k:Int)(R:List (List Cel))(j:Int)(T:List (List Cel))(h:R.length≤100000)(h2:∀ r∈R,r.length≤100000){base:Nat}:FV Tp 24 [.p (.agg [aB k,cD R]),.p (.agg [aB j,cD T])] base (pB (decide (k=j∧R=T))) []:=by
 by_cases q:k=j
 ·have:=bTw (T:=T) (base:=base) q h h2 rfl
  have e:decide (k=j∧R=T)=decide (R=T):=by simp [q]
  rw [e];exact this
 ·have e:decide (k=j∧R=T)=false:=by simp [q]
  rw [e];exact bTx q
theorem bTy(r:List Cel):((r.map cE).flatten).length=r.length*2:=rJ (E:=cE) (k:=2) (fun _=>rfl) r
theorem bTz:FV Tp 86 [] base (.p (.agg [(aB 0),(.sl 2 [(PV.sl (([((7:Int),[]),((0:Int),[]),((1:Int),[])]:List Cel).length) ((([((7:Int),[]),((0:Int),[]),((1:Int),[])]:List Cel).map cE).flatten)),(.sl (([((12:Int),[]),((305:Int),[]),((0:Int),[])]:List Cel).length) ((([((12:Int),[]),((305:Int),[]),((0:Int),[])]:List Cel).map cE).flatten))])])) []:=have k1:=fk 1 (rH 7 0 1) rfl;have k2:=fk 1 (rH 12 305 0) rfl;FV.frz (FMM.fi 0 ⟨[],[],[1],[]⟩ func86 [k1.o,k2.o] (gc k2 (gc k1 gn))) (by kernel_rfl)
def lL:List (List Cel):=[[(7,[]),(0,[]),(1,[])],[(12,[]),(305,[]),(0,[])]]
theorem vY{base:Nat}:FV Tp 86 [] base (.p (.agg [aB 0,cD lL])) []:=bTz
end
section
variable {n nx r0 r1 r2 st x0:Int}{l:List Int}

theorem bFq:(65519:Int)≠0:=by first | decide | simp
abbrev dV(n:Int):PV := .v (.int .u8 n)
theorem bLw(h0:n≤1):FMM Tp 83 [(.ptr 0 0),(pI n)] [some (.box 205 [(.p (.sl l.length (l.map dV))),(pI nx),(.p (.v (.int .u32 st)))])] (pI 0) [some (.box 205 [(.p (.sl l.length (l.map dV))),(pI nx),(.p (.v (.int .u32 st)))])]:=FMM.fi 1 gE func83 (rT 7) (Js (mB h0) gn)
theorem bLx(h0:(1:Int)<n)(h1:(l.length:Int)=0):FMM Tp 83 [(.ptr 0 0),(pI n)] [some (.box 205 [(.p (.sl l.length (l.map dV))),(pI nx),(.p (.v (.int .u32 st)))])] (pI 0) [some (.box 205 [(.p (.sl l.length (l.map dV))),(pI nx),(.p (.v (.int .u32 st)))])]:=FMM.fi 1 gE func83 (rF 7++[bT]) (gc (dC h1) (Js (eJ h0) gn))
theorem bLy(h0:(1:Int)<n)(h1 h2:(l.length:Int)≠0)(h3:l[(nx.tmod (l.length:Int)).toNat]? = some x0)(h4:0≤(nx.tmod (l.length:Int)))(h5:inR (nx.tdiv (l.length:Int)))(h6:inR (nx+1))(h7:(IntKind.wrap .u32 (nx.tdiv (l.length:Int)))=0)(h8:n≤256)(h9:inR (IntKind.wrap .u32 x0))(A5:n≠0)(Al:r0=((IntKind.wrap .u32 x0).tmod n))(Dd:r1=(nx+1))(D8:r2=((IntKind.wrap .u32 ((IntKind.wrap .u32 ((IntKind.wrap .u32 ((IntKind.wrap .u32 (st*45))+(IntKind.wrap .u32 x0)))+(IntKind.wrap .u32 ((77:Int)*(IntKind.wrap .u32 (nx.tdiv (l.length:Int)))))))+1)).tmod 65519)):FMM Tp 83 [(.ptr 0 0),(pI n)] [some (.box 205 [(.p (.sl l.length (l.map dV))),(pI nx),(.p (.v (.int .u32 st)))])] (pI r0) [some (.box 205 [(.p (.sl l.length (l.map dV))),(pI r1),(.p (.v (.int .u32 r2)))])]:=by
 subst Al Dd D8;exact FMM.fi 1 gE func83 (rF 8++[.x (.v (.int .u8 x0)),bT,bT,bT,bT]) (gc A5 (gc h9 (gc (mB h8) (Ay (dC h7) (gc bFq (gc h6 (gc h5 (gc h2 (gt ((l.map dV)[((nx.tmod (l.length:Int)).toNat*1)]? = some (.v (.int .u8 x0))) (sF (i:=(nx.tmod (l.length:Int)).toNat) h3) (gc (sG (g:=dV) h4 h3) (gc h2 (gc (bP h1) (Js (eJ h0) gn)))))))))))))
theorem bLz(h0:(1:Int)<n)(h1 h2:(l.length:Int)≠0)(h3:l[(nx.tmod (l.length:Int)).toNat]? = some x0)(h4:0≤(nx.tmod (l.length:Int)))(h5:inR (nx.tdiv (l.length:Int)))(h6:inR (nx+1))(h7:(IntKind.wrap .u32 (nx.tdiv (l.length:Int)))=0)(h8:(256:Int)<n)(h9:inR (IntKind.wrap .u32 ((IntKind.wrap .u32 (((IntKind.wrap .u32 ((IntKind.wrap .u32 ((IntKind.wrap .u32 ((IntKind.wrap .u32 (st*45))+(IntKind.wrap .u32 x0)))+(IntKind.wrap .u32 ((77:Int)*(IntKind.wrap .u32 (nx.tdiv (l.length:Int)))))))+1)).tmod 65519)*256))+(IntKind.wrap .u32 x0))))(A5:n≠0)(Al:r0=((IntKind.wrap .u32 ((IntKind.wrap .u32 (((IntKind.wrap .u32 ((IntKind.wrap .u32 ((IntKind.wrap .u32 ((IntKind.wrap .u32 (st*45))+(IntKind.wrap .u32 x0)))+(IntKind.wrap .u32 ((77:Int)*(IntKind.wrap .u32 (nx.tdiv (l.length:Int)))))))+1)).tmod 65519)*256))+(IntKind.wrap .u32 x0))).tmod n))(Dd:r1=(nx+1))(D8:r2=((IntKind.wrap .u32 ((IntKind.wrap .u32 ((IntKind.wrap .u32 ((IntKind.wrap .u32 (st*45))+(IntKind.wrap .u32 x0)))+(IntKind.wrap .u32 ((77:Int)*(IntKind.wrap .u32 (nx.tdiv (l.length:Int)))))))+1)).tmod 65519)):FMM Tp 83 [(.ptr 0 0),(pI n)] [some (.box 205 [(.p (.sl l.length (l.map dV))),(pI nx),(.p (.v (.int .u32 st)))])] (pI r0) [some (.box 205 [(.p (.sl l.length (l.map dV))),(pI r1),(.p (.v (.int .u32 r2)))])]:=by
 subst Al Dd D8;exact FMM.fi 1 gE func83 (rF 8++[.x (.v (.int .u8 x0)),bT,bT,bT,bF]) (gc A5 (gc h9 (gc (eJ h8) (Ay (dC h7) (gc bFq (gc h6 (gc h5 (gc h2 (gt ((l.map dV)[((nx.tmod (l.length:Int)).toNat*1)]? = some (.v (.int .u8 x0))) (sF (i:=(nx.tmod (l.length:Int)).toNat) h3) (gc (sG (g:=dV) h4 h3) (gc h2 (gc (bP h1) (Js (eJ h0) gn)))))))))))))
theorem bMa(h0:(1:Int)<n)(h1 h2:(l.length:Int)≠0)(h3:l[(nx.tmod (l.length:Int)).toNat]? = some x0)(h4:0≤(nx.tmod (l.length:Int)))(h5:inR (nx.tdiv (l.length:Int)))(h6:inR (nx+1))(h7:(IntKind.wrap .u32 (nx.tdiv (l.length:Int)))≠0)(h8:inR (IntKind.wrap .u32 ((IntKind.wrap .u32 (((IntKind.wrap .u32 ((IntKind.wrap .u32 ((IntKind.wrap .u32 ((IntKind.wrap .u32 (st*45))+(IntKind.wrap .u32 x0)))+(IntKind.wrap .u32 ((77:Int)*(IntKind.wrap .u32 (nx.tdiv (l.length:Int)))))))+1)).tmod 65519)*256))+(IntKind.wrap .u32 x0))))(h9:n≠0)(Al:r0=((IntKind.wrap .u32 ((IntKind.wrap .u32 (((IntKind.wrap .u32 ((IntKind.wrap .u32 ((IntKind.wrap .u32 ((IntKind.wrap .u32 (st*45))+(IntKind.wrap .u32 x0)))+(IntKind.wrap .u32 ((77:Int)*(IntKind.wrap .u32 (nx.tdiv (l.length:Int)))))))+1)).tmod 65519)*256))+(IntKind.wrap .u32 x0))).tmod n))(Dd:r1=(nx+1))(D8:r2=((IntKind.wrap .u32 ((IntKind.wrap .u32 ((IntKind.wrap .u32 ((IntKind.wrap .u32 (st*45))+(IntKind.wrap .u32 x0)))+(IntKind.wrap .u32 ((77:Int)*(IntKind.wrap .u32 (nx.tdiv (l.length:Int)))))))+1)).tmod 65519)):FMM Tp 83 [(.ptr 0 0),(pI n)] [some (.box 205 [(.p (.sl l.length (l.map dV))),(pI nx),(.p (.v (.int .u32 st)))])] (pI r0) [some (.box 205 [(.p (.sl l.length (l.map dV))),(pI r1),(.p (.v (.int .u32 r2)))])]:=by
 subst Al Dd D8;exact FMM.fi 1 gE func83 (rF 8++[.x (.v (.int .u8 x0)),bF,bF,bF]) (gc h9 (gc h8 (Ay (bP h7) (gc bFq (gc h6 (gc h5 (gc h2 (gt ((l.map dV)[((nx.tmod (l.length:Int)).toNat*1)]? = some (.v (.int .u8 x0))) (sF (i:=(nx.tmod (l.length:Int)).toNat) h3) (gc (sG (g:=dV) h4 h3) (gc h2 (gc (bP h1) (Js (eJ h0) gn))))))))))))
def Cs(z:Int):Int:=IntKind.wrap .u32 z
theorem aGl(z:Int):0≤Cs z∧Cs z<4294967296:=by
 unfold Cs IntKind.wrap;simp only [IntKind.bits,IntKind.signed,Bool.false_and,Bool.false_eq_true,if_false];omega
def aKc(l:List Int)(nx:Int):Int:=Cs (l.getD (nx.tmod (l.length:Int)).toNat 0)
def bFr(l:List Int)(nx st:Int):Int:=(Cs (Cs (Cs (Cs (st*45)+aKc l nx)+Cs (77*Cs (nx.tdiv (l.length:Int))))+1)).tmod 65519
def aW(n:Int)(l:List Int)(nx st:Int):Int × Int × Int:=if n≤1∨l.length=0 then (0,nx,st) else
 (if Cs (nx.tdiv (l.length:Int))=0∧n≤256 then (aKc l nx).tmod n else (Cs (Cs (bFr l nx st*256)+aKc l nx)).tmod n,nx+1,bFr l nx st)
theorem jT(n:Int)(l:List Int)(nx st:Int):0≤(aW n l nx st).1∧((aW n l nx st).1<n∨(aW n l nx st).1=0)∧nx≤(aW n l nx st).2.1∧(aW n l nx st).2.1≤nx+1:=by
 unfold aW
 split
 ·simp;omega
 ·rename_i h
  simp only [not_or] at h
  have h1:∀ z:Int,0≤z→0≤z.tmod n∧z.tmod n<n:=fun z hz=>⟨Int.tmod_nonneg n hz,Int.tmod_lt_of_pos z (by omega)⟩
  have h2:=(aGl (l.getD (nx.tmod (l.length:Int)).toNat 0)).1;have h3:=(aGl (Cs (bFr l nx st*256)+aKc l nx)).1;dsimp only
  split
  ·have:=h1 _ h2;unfold aKc;omega
  ·have:=h1 _ h3;omega
abbrev pY(l:List Int)(nx st:Int):AO := .box 205 [.p (.sl l.length (l.map dV)),.p (aB nx),.p (.v (.int .u32 st))]
theorem lW(n:Int)(l:List Int)(nx st:Int)(h:0≤nx∧nx≤1000000000):FMM Tp 83 [.ptr 0 0,.p (aB n)] [some (pY l nx st)] (.p (aB (aW n l nx st).1)) [some (pY l (aW n l nx st).2.1 (aW n l nx st).2.2)]:=by
 by_cases h1:n≤1
 ·have e:aW n l nx st=(0,nx,st):=by unfold aW;rw [if_pos (.inl h1)]
  rw [e];exact bLw h1
 ·by_cases h2:l.length=0
  ·have e:aW n l nx st=(0,nx,st):=by unfold aW;rw [if_pos (.inr h2)]
   rw [e];exact bLx (by omega) (by omega)
  ·have h0:0≤nx.tmod (l.length:Int)∧nx.tmod (l.length:Int)<(l.length:Int):=⟨Int.tmod_nonneg _ h.1,Int.tmod_lt_of_pos _ (by omega)⟩
   have hq:0≤nx.tdiv (l.length:Int)∧nx.tdiv (l.length:Int)≤nx:=⟨Int.tdiv_nonneg h.1 (by omega),Int.tdiv_le_self _ h.1⟩
   have hi:(nx.tmod (l.length:Int)).toNat<l.length:=by omega
   have hg:l[(nx.tmod (l.length:Int)).toNat]? = some (l.getD (nx.tmod (l.length:Int)).toNat 0):=by
    rw [B3 hi,uK,B3 hi];rfl
   have hw:∀ z,inR (IntKind.wrap .u32 z):=fun z=>by have:=aGl z;unfold Cs at this;unfold inR;omega
   unfold aW;rw [if_neg (by simp only [not_or];exact ⟨h1,h2⟩)]
   dsimp only
   by_cases h3:Cs (nx.tdiv (l.length:Int))=0
   ·by_cases h4:n≤256
    ·rw [if_pos ⟨h3,h4⟩]
     exact bLy (by omega) (by omega) (by omega) hg h0.1 (by show _∧_;omega) (by show _∧_;omega) h3 h4 (hw _) (by omega) rfl rfl rfl
    ·rw [if_neg (fun h=>h4 h.2)]
     exact bLz (by omega) (by omega) (by omega) hg h0.1 (by show _∧_;omega) (by show _∧_;omega) h3 (by omega) (hw _) (by omega) rfl rfl rfl
   ·rw [if_neg (fun h=>h3 h.1)]
    exact bMa (by omega) (by omega) (by omega) hg h0.1 (by show _∧_;omega) (by show _∧_;omega) h3 (hw _) (by omega) rfl rfl rfl
theorem bTh{lo hi:Int}(h0:inR (hi-lo))(h1:inR ((hi-lo)+1))(h2:0≤nx∧nx≤1000000000)(h3:inR (lo+((aW ((hi-lo)+1) l nx st).1)))(Al:r0=(lo+((aW ((hi-lo)+1) l nx st).1)))(Dd:r1=((aW ((hi-lo)+1) l nx st).2.1))(D8:r2=((aW ((hi-lo)+1) l nx st).2.2)):FMM Tp 81 [(.ptr 0 0),(pI lo),(pI hi)] [some (.box 205 [(.p (.sl l.length (l.map dV))),(pI nx),(.p (.v (.int .u32 st)))])] (pI r0) [some (.box 205 [(.p (.sl l.length (l.map dV))),(pI r1),(.p (.v (.int .u32 r2)))])]:=by
 subst Al Dd D8;have k1:=mq [0] 1 (lW ((hi-lo)+1) l nx st h2);exact FMM.fi 1 gE func81 [k1.o] (gc h3 (gc k1 (gc h1 (gc h0 gn))))
def dL(lo hi:Int)(l:List Int)(nx st:Int):Int × Int × Int:=(lo+(aW (hi-lo+1) l nx st).1,(aW (hi-lo+1) l nx st).2)
theorem oI(lo hi:Int)(l:List Int)(nx st:Int):lo≤(dL lo hi l nx st).1∧((dL lo hi l nx st).1≤hi∨(dL lo hi l nx st).1=lo)∧nx≤(dL lo hi l nx st).2.1∧(dL lo hi l nx st).2.1≤nx+1:=by
 have:=jT (hi-lo+1) l nx st;unfold dL;dsimp only;omega
theorem aGm(lo hi:Int)(l:List Int)(nx st:Int)(h:0≤nx∧nx≤1000000000)(hb:(-1000000≤lo∧lo≤1000000) ∧ -1000000≤hi∧hi≤1000000):FMM Tp 81 [.ptr 0 0,.p (aB lo),.p (aB hi)] [some (pY l nx st)] (.p (aB (dL lo hi l nx st).1)) [some (pY l (dL lo hi l nx st).2.1 (dL lo hi l nx st).2.2)]:=by
 have:=oI lo hi l nx st;exact bTh (by show _∧_;omega) (by show _∧_;omega) h (show inR (dL lo hi l nx st).1 by unfold inR;omega) rfl rfl rfl
theorem cBw:FMM Tp 26 [(.p (.sl l.length (l.map dV)))] [] (.ptr 0 0) [some (.box 205 [(.p (.sl l.length (l.map dV))),(pI 0),(.p (.v (.int .u32 17)))])]:=FMM.fi 0 ⟨[],[0],[],[]⟩ func26 [] gn
theorem bTi{v:Int}(h0:(0:Int)<n)(h1:n≠0)(h2:inR ((v.tmod n)+n))(Al:r0=(((v.tmod n)+n).tmod n)){base:Nat}:FV Tp 34 [(pI v),(pI n)] base (pI r0) []:=by
 subst Al;exact FV.fi func34 [bF] (gc h1 (gc h2 (gc h1 (gc (eJ h0) gn))))
end
section
variable {k n:Int}{base:Nat}

theorem bSx(h0:k=0):FV Tp 43 [(pI k)] base (.tup [(.p (.sl 3 [(aB 0),(aB 1),(aB 0)])),(pI 1)]) []:=FV.frz (FMM.fi 0 ⟨[],[],[0],[]⟩ func43 [bT] (gc (dC h0) gn)) (by kernel_rfl)
theorem bSy(h0:k≠0)(h1:k=1):FV Tp 43 [(pI k)] base (.tup [(.p (.sl 4 [(aB 0),(aB 0),(aB 0),(aB 1)])),(pI 3)]) []:=FV.frz (FMM.fi 0 ⟨[],[],[0],[]⟩ func43 [bF,bT] (gc (dC h1) (gc (bP h0) gn))) (by kernel_rfl)
section
variable(h0:k≠0)(h1:k≠1)
include h0 h1
theorem bSz(h2:k=2):FV Tp 43 [(pI k)] base (.tup [(.p (.sl 3 [(aB 0),(aB 0),(aB 2)])),(pI 2)]) []:=FV.frz (FMM.fi 0 ⟨[],[],[0],[]⟩ func43 [bF,bF,bT] (gc (dC h2) (gc (bP h1) (gc (bP h0) gn)))) (by kernel_rfl)
theorem bTa(h2:k≠2)(h3:k=3):FV Tp 43 [(pI k)] base (.tup [(.p (.sl 4 [(aB 0),(aB 0),(aB 3),(aB 0)])),(pI 1)]) []:=FV.frz (FMM.fi 0 ⟨[],[],[0],[]⟩ func43 [bF,bF,bF,bT] (gc (dC h3) (gc (bP h2) (gc (bP h1) (gc (bP h0) gn))))) (by kernel_rfl)
theorem bTb(h2:k≠2)(h3:k≠3):FV Tp 43 [(pI k)] base (.tup [(.p (.sl 3 [(aB 0),(aB 0),(aB 0)])),(pI 1)]) []:=FV.frz (FMM.fi 0 ⟨[],[],[0],[]⟩ func43 [bF,bF,bF,bF] (gc (bP h3) (gc (bP h2) (gc (bP h1) (gc (bP h0) gn))))) (by kernel_rfl)
end
theorem bTc(k:Int){base:Nat}:FV Tp 43 [.p (aB k)] base (.tup [.p (bM (aJ k)),.p (aB (aO k))]) []:=by
 unfold aJ aO
 by_cases h0:k=0
 ·subst h0;exact bSx rfl
 ·rw [if_neg h0]
  by_cases h1:k=1
  ·subst h1;exact bSy (by decide) rfl
  ·rw [if_neg h1,if_neg h1]
   by_cases h2:k=2
   ·subst h2;exact bSz (by decide) (by decide) rfl
   ·rw [if_neg h2,if_neg h2]
    by_cases h3:k=3
    ·subst h3;exact bTa (by decide) (by decide) (by decide) rfl
    ·rw [if_neg h3];exact bTb h0 h1 h2 h3
def aWq(v n:Int):Int:=(v.tmod n+n).tmod n
theorem aRq(v:Int){n:Int}(h:0<n) : -n<v.tmod n∧v.tmod n<n:=by
 refine ⟨Int.lt_tmod_of_pos v h,Int.tmod_lt_of_pos v h⟩
theorem bLu(v:Int){n:Int}(h:0<n):0≤aWq v n∧aWq v n<n:=by
 have:=aRq v h;unfold aWq;exact ⟨Int.tmod_nonneg _ (by omega),Int.tmod_lt_of_pos _ h⟩
theorem bTd(v n:Int)(hn:0<n∧n≤1000000){base:Nat}:FV Tp 34 [.p (aB v),.p (aB n)] base (pI (aWq v n)) []:=by
 have:=aRq v hn.1;exact bTi hn.1 (by omega) (by show _∧_;omega) rfl
theorem bTe{v r0:Int}(h0:0<(5:Int)∧(5:Int)≤1000000)(Al:r0=(aWq v 5)):FV Tp 27 [(pI v)] base (pI r0) []:=by
 subst Al;have k1:=fk 0 (bTd v 5 h0) rfl;exact FV.fi func27 [k1.o] (gc k1 gn)
def bB(v:Int):Int:=aWq v 5
theorem bFn(v:Int){base:Nat}:FV Tp 27 [.p (aB v)] base (pI (bB v)) []:=bTe (by decide) rfl
theorem aRr(v:Int):within (bB v) 0 4=true:=by
 have:=bLu v (n:=5) (by decide)
 exact cK.2 (by unfold bB;omega)
def bFo(n:Int):Prop:=∀ (base:Nat),FV Tp 31 [.p (aB n)] base (.p (aD (Lib.itoa n))) []
theorem aAj{x:Int}(h:0≤x∧x<128):IntKind.wrap .i32 x=x:=by
 unfold IntKind.wrap;simp only [IntKind.bits,IntKind.signed];simp;omega
theorem bTf(h0:n<10)(h1:inR ((48:Int)+(if n > 0 then n else 0)))(h2:0≤(IntKind.wrap .i32 ((48:Int)+(if n > 0 then n else 0)))∧(IntKind.wrap .i32 ((48:Int)+(if n > 0 then n else 0)))<128):FV Tp 31 [(pI n)] base (.p (aD [UInt8.ofNat ((IntKind.wrap .i32 ((48:Int)+(if n > 0 then n else 0)))).toNat])) []:=FV.fi func31 [bT] (gc h2 (gc h1 (g0 h0)))
theorem bTg(h0:(10:Int)≤n)(h1:inR (n.tdiv 10))(h2:bFo (n.tdiv 10))(h3:inR ((48:Int)+(n.tmod 10)))(h4:0≤(IntKind.wrap .i32 ((48:Int)+(n.tmod 10)))∧(IntKind.wrap .i32 ((48:Int)+(n.tmod 10)))<128)(h5:(Lib.itoa (n.tdiv 10)).length+[UInt8.ofNat ((IntKind.wrap .i32 ((48:Int)+(n.tmod 10)))).toNat].length≤4611686018427387904):FV Tp 31 [(pI n)] base (.p (aD ((Lib.itoa (n.tdiv 10))++[UInt8.ofNat ((IntKind.wrap .i32 ((48:Int)+(n.tmod 10)))).toNat]))) []:=FV.fi func31 [bF,.c (.p (aD (Lib.itoa (n.tdiv 10)))) []] (gc h5 (gc h4 (gc h3 (gt ((10:Int)≠0) (by first | decide | simp) (gc (fk 0 (h2 _) rfl) (gc h1 (gt ((10:Int)≠0) (by first | decide | simp) (gc (bL h0) gn))))))))
theorem bLv:∀ (k n:Nat),n<k→n≤1000000000→bFo (n:Int):=by
 intro k
 induction k with
 | zero=>intro n h;omega
 | succ k ih =>
  intro n h hn base
  by_cases A5:n<10
  ·have hm:(if (n:Int) > 0 then (n:Int) else 0)=(n:Int):=by split <;> omega
   have hw:=aAj (x:=(48:Int)+(n:Int)) (by omega)
   have e:(IntKind.wrap .i32 ((48:Int)+(if (n:Int) > 0 then (n:Int) else 0))).toNat=48+n:=by rw [hm,hw];omega
   have:=bTf (n:=(n:Int)) (base:=base) (by omega) (by rw [hm];unfold inR;omega) (by rw [hm,hw];omega)
   rw [e] at this
   rw [Lib.itoa_nonneg,kV A5];exact this
  ·rw [Lib.itoa_nonneg,uT A5]
   have e1:(n:Int).tdiv 10=((n / 10:Nat):Int):=by rw [Int.tdiv_eq_ediv_of_nonneg (by omega)];omega
   have e2:(n:Int).tmod 10=((n % 10:Nat):Int):=by rw [Int.tmod_eq_emod_of_nonneg (by omega)];omega
   have g1:bFo ((n:Int).tdiv 10):=by rw [e1];exact ih _ (by omega) (by omega)
   have l1:=bNn (n / 10) (by omega)
   have hw:=aAj (x:=(48:Int)+((n % 10:Nat):Int)) (by omega)
   have e:(IntKind.wrap .i32 ((48:Int)+(n:Int).tmod 10)).toNat=48+n % 10:=by rw [e2,hw];omega
   have:=bTg (n:=(n:Int)) (base:=base) (by omega) (by rw [e1];unfold inR;omega) g1 (by rw [e2];unfold inR;omega) (by rw [e2,hw];omega) (by rw [e1,Lib.itoa_nonneg,List.length_singleton];omega)
   rw [e,e1,Lib.itoa_nonneg] at this
   exact this
theorem bFp(n:Int)(h:0≤n∧n≤1000000000){base:Nat}:FV Tp 31 [.p (aB n)] base (.p (aD (Lib.itoa n))) []:=by
 obtain ⟨m,rfl⟩:∃ m:Nat,n=(m:Int):=⟨n.toNat,by omega⟩
 exact bLv (m+1) m (by omega) (by omega) base
end
section
variable {k ma mb mc md nx st ta tb tc td Em Gg most:Int}{l:List Int}{i j q j' q' Im:Nat}

noncomputable abbrev aAi:Code:=sub (cd Tryz.f25) [1,1,1,0,1,0,0,1,1,0,0,1,1,0,1,0,0]
noncomputable abbrev bFi:Code:=sub (cd Tryz.f25) [1,1,1,0,1,0,0]
noncomputable abbrev bFj:Code:=sub (cd Tryz.f25) [1,1,1,0,1,0,0,1,1,0,0,1,1,0,1,0,0,1,1,0,0,1,1,0,1,0,1,1,1,1,1,0,1,0,0]
noncomputable abbrev bFk:Code:=sub (cd Tryz.f25) [1,1,1,0,1,0,0,1,1,0,0,1,1,0,1,0,0,1,1,0,0,1,1,0,1,0,1,1,1,1,1,1,1,0,0]
theorem bPy:((0:Int) == 0)=true:=by first | decide | simp
def pV(l:List Int)(nx st k most:Int)(i Rn:Nat)(Rc:List PV)(ma ta:Int):St:=⟨fr 100 [(0,(.ptr 0 0)),(6,(.ptr 1 0)),(7,(.ptr 2 0)),(8,(.p (bM (aJ k)))),(25,(pI ((aW (most+1) l nx st).1))),(26,(pI (i:Int)))],[some (.box 205 [(.p (.sl l.length (l.map dV))),(pI ma),(.p (.v (.int .u32 ta)))]),some (.box 26 [(pI 0),(.p bO)]),some (.box 26 [(pI k),(.own 3)]),some (.row 78 Rn Rc)]⟩
theorem bSw{Aq:Nat}{R'1:List (List Cel)}{Kh Ki:Int}(h0:inR (most+1))(h1:0≤nx∧nx≤1000000000)(Bp:aF Tp 1 bFi (pV l nx st k most 0 0 [] ((aW (most+1) l nx st).2.1) ((aW (most+1) l nx st).2.2)) (.exit 0) (pV l nx st k most Aq R'1.length ((R'1.map rwE).flatten) Kh Ki)):FMM Tp 25 [(.ptr 0 0),(pI k),(pI most)] [some (.box 205 [(.p (.sl l.length (l.map dV))),(pI nx),(.p (.v (.int .u32 st)))])] (.p (.agg [(aB k),(.sl R'1.length ((R'1.map rwE).flatten))])) [some (.box 205 [(.p (.sl l.length (l.map dV))),(pI Kh),(.p (.v (.int .u32 Ki)))])]:=have k1:=fk 3 (bTc k) rfl;have k2:=mq [0] 3 (lW (most+1) l nx st h1);FMM.fi 1 ⟨[],[],[3],[]⟩ func25 [k1.o,k2.o,Bp.k 1 (gN [1,5,9,16,27,72] [1,2,3] [(102001,78)])] (gc Bp.code (gc k2 (gc h0 (gc k1 gn))))
def eN(l:List Int)(nx st k most:Int)(i:Nat)(R:List (List Cel))(j rn:Nat)(rc:List PV)(mb tb:Int):St:=⟨fr 100 [(0,(.ptr 0 0)),(6,(.ptr 1 0)),(7,(.ptr 2 0)),(8,(.p (bM (aJ k)))),(10,(pI (i:Int))),(11,(.own 4)),(25,(pI ((aW (most+1) l nx st).1))),(26,(pI (i:Int))),(29,(.p (bM (aJ k)))),(30,(pI ((aJ k).length:Int))),(31,(pI (j:Int)))],[some (.box 205 [(.p (.sl l.length (l.map dV))),(pI mb),(.p (.v (.int .u32 tb)))]),some (.box 26 [(pI 0),(.p bO)]),some (.box 26 [(pI k),(.own 3)]),some (.row 78 R.length ((R.map rwE).flatten)),some (.row 80 rn rc)]⟩
theorem aWe{R:List (List Cel)}{Fa:Nat}{Eo:List Cel}{G7 G8:Int}{i':Nat}{R':List (List Cel)}(h0:(i:Int)<((aW (most+1) l nx st).1))(An:aF Tp 1 aAi (eN l nx st k most i R 0 0 [] ma ta) (.exit 2) (eN l nx st k most i R Fa Eo.length ((Eo.map cE).flatten) G7 G8))(h2:[(PV.sl Eo.length ((Eo.map cE).flatten))].length=1*1∧R.length+1≤1000000)(h3:cn i)(Aj:i'=(i+1))(D5:R'.length=(R.length+1))(D6:(R'.map rwE).flatten=(((R.map rwE).flatten)++[(PV.sl Eo.length ((Eo.map cE).flatten))])):aA Tp 1 bFi (pV l nx st k most i R.length ((R.map rwE).flatten) ma ta) .normal (pV l nx st k most i' R'.length ((R'.map rwE).flatten) G7 G8):=by
 subst Aj;rw [D5,D6];exact aA.fi (gI [1,5,9,16,27,72] [1,2,6]) [bT,An.k 10 (gN ay [1,2,3,4] [(11,80)])] (gc h3 (gc h2 (gc An.code (g0 h0))))
theorem aWf{R:List (List Cel)}(h0:((aW (most+1) l nx st).1)≤(i:Int)):aA Tp 1 bFi (pV l nx st k most i R.length ((R.map rwE).flatten) ma ta) (.exit 0) (pV l nx st k most i R.length ((R.map rwE).flatten) ma ta):=aA.fi (gI [1,5,9,16,27,72] [1,2,3]) [bF] (gc (bL h0) gn)
def pW(l:List Int)(nx st k most:Int)(i:Nat)(R:List (List Cel))(j:Nat)(r:List Cel)(mb tb:Int)(q:Nat)(z:List UInt8)(mc tc:Int):St:=⟨fr 100 [(0,(.ptr 0 0)),(6,(.ptr 1 0)),(7,(.ptr 2 0)),(8,(.p (bM (aJ k)))),(10,(pI (i:Int))),(11,(.own 4)),(12,(pI (j:Int))),(14,(.ptr 5 0)),(25,(pI ((aW (most+1) l nx st).1))),(26,(pI (i:Int))),(29,(.p (bM (aJ k)))),(30,(pI ((aJ k).length:Int))),(31,(pI (j:Int))),(67,(pI ((dL 5 8 l mb tb).1))),(68,(pI (q:Int)))],[some (.box 205 [(.p (.sl l.length (l.map dV))),(pI mc),(.p (.v (.int .u32 tc)))]),some (.box 26 [(pI 0),(.p bO)]),some (.box 26 [(pI k),(.own 3)]),some (.row 78 R.length ((R.map rwE).flatten)),some (.row 80 r.length ((r.map cE).flatten)),some (.box 80 [(pI 0),(.p (aD z))])]⟩
def pX(l:List Int)(nx st k most:Int)(i:Nat)(R:List (List Cel))(j:Nat)(r:List Cel)(mb tb:Int)(q:Nat)(z:List UInt8)(md td:Int):St:=⟨fr 100 [(0,(.ptr 0 0)),(6,(.ptr 1 0)),(7,(.ptr 2 0)),(8,(.p (bM (aJ k)))),(10,(pI (i:Int))),(11,(.own 4)),(12,(pI (j:Int))),(14,(.ptr 5 0)),(25,(pI ((aW (most+1) l nx st).1))),(26,(pI (i:Int))),(29,(.p (bM (aJ k)))),(30,(pI ((aJ k).length:Int))),(31,(pI (j:Int))),(38,(pI ((dL 1 12 l mb tb).1))),(39,(pI (q:Int)))],[some (.box 205 [(.p (.sl l.length (l.map dV))),(pI md),(.p (.v (.int .u32 td)))]),some (.box 26 [(pI 0),(.p bO)]),some (.box 26 [(pI k),(.own 3)]),some (.row 78 R.length ((R.map rwE).flatten)),some (.row 80 r.length ((r.map cE).flatten)),some (.box 80 [(pI 0),(.p (aD z))])]⟩
abbrev bFl(l:List Int)(mb tb:Int):=dL 1 99 l ((aW 60 l mb tb).2.1) ((aW 60 l mb tb).2.2)
abbrev cDr(l:List Int)(mb tb:Int):=aW 3 l ((bFl l mb tb).2.1) ((bFl l mb tb).2.2)
abbrev bFm(l:List Int)(mb tb:Int):=aW 60 l mb tb
section
variable(h0:(j:Int)<((aJ k).length:Int))(h1:(aJ k)[j]? = some 0)(h2:0≤mb∧mb≤1000000000)(h3:0≤((aW 60 l mb tb).2.1)∧((aW 60 l mb tb).2.1)≤1000000000)(h4:(-1000000≤1∧(1:Int)≤1000000) ∧ -1000000≤99∧(99:Int)≤1000000)(h5:inR (((aW 60 l mb tb).1)*((dL 1 99 l ((aW 60 l mb tb).2.1) ((aW 60 l mb tb).2.2)).1)))
include h0 h1 h2 h3 h4 h5
theorem aWg{R:List (List Cel)}{r r':List Cel}(h6:(j:Int)=0)(h7:inR ((3:Int)*(i:Int)))(h8:0≤((dL 1 99 l ((aW 60 l mb tb).2.1) ((aW 60 l mb tb).2.2)).2.1)∧((dL 1 99 l ((aW 60 l mb tb).2.1) ((aW 60 l mb tb).2.2)).2.1)≤1000000000)(h9:inR (((3:Int)*(i:Int))+((aW 3 l ((dL 1 99 l ((aW 60 l mb tb).2.1) ((aW 60 l mb tb).2.2)).2.1) ((dL 1 99 l ((aW 60 l mb tb).2.1) ((aW 60 l mb tb).2.2)).2.2)).1)))(A5:[(aB (((3:Int)*(i:Int))+((aW 3 l ((dL 1 99 l ((aW 60 l mb tb).2.1) ((aW 60 l mb tb).2.2)).2.1) ((dL 1 99 l ((aW 60 l mb tb).2.1) ((aW 60 l mb tb).2.2)).2.2)).1))),(aD ([]:List UInt8))].length=1*2∧r.length+1≤1000000)(Cm:cn j)(Bw:j'=(j+1))(Dh:r'.length=(r.length+1))(Di:(r'.map cE).flatten=(((r.map cE).flatten)++[(aB (((3:Int)*(i:Int))+((aW 3 l ((dL 1 99 l ((aW 60 l mb tb).2.1) ((aW 60 l mb tb).2.2)).2.1) ((dL 1 99 l ((aW 60 l mb tb).2.1) ((aW 60 l mb tb).2.2)).2.2)).1))),(aD ([]:List UInt8))]))(G9:Em=((aW 3 l ((dL 1 99 l ((aW 60 l mb tb).2.1) ((aW 60 l mb tb).2.2)).2.1) ((dL 1 99 l ((aW 60 l mb tb).2.1) ((aW 60 l mb tb).2.2)).2.2)).2.1))(Ha:Gg=((aW 3 l ((dL 1 99 l ((aW 60 l mb tb).2.1) ((aW 60 l mb tb).2.2)).2.1) ((dL 1 99 l ((aW 60 l mb tb).2.1) ((aW 60 l mb tb).2.2)).2.2)).2.2)):aA Tp 1 aAi (eN l nx st k most i R j r.length ((r.map cE).flatten) mb tb) .normal (eN l nx st k most i R j' r'.length ((r'.map cE).flatten) Em Gg):=by
 subst Bw G9 Ha;have k1:=mq [0] 6 (lW 60 l mb tb h2);have k2:=mq [0] 6 (aGm 1 99 l ((bFm l mb tb).2.1) ((bFm l mb tb).2.2) h3 h4);have k3:=mq [0] 6 (lW 3 l ((bFl l mb tb).2.1) ((bFl l mb tb).2.2) h8);rw [Dh,Di];exact aA.fi (gI ay [1,2,3,7]) [bT,.x (aB 0),bT,k1.o,k2.o,bT,k3.o] (gc Cm (gc A5 (gt ([(aB (((3:Int)*(i:Int))+((cDr l mb tb).1))),(aD ([]:List UInt8))].length=2) (by first | decide | simp) (gc h9 (gc k3 (gc h7 (gc (dC h6) (gc h5 (gc k2 (gc k1 (gc bPy (gc (atm aB h1) (gc (ixn aB h1) (g0 h0))))))))))))))
theorem aWh{R:List (List Cel)}{r r':List Cel}(h6:(j:Int)≠0)(h7:[(aB (((aW 60 l mb tb).1)*((dL 1 99 l ((aW 60 l mb tb).2.1) ((aW 60 l mb tb).2.2)).1))),(aD ([]:List UInt8))].length=1*2∧r.length+1≤1000000)(h8:cn j)(Bw:j'=(j+1))(Dh:r'.length=(r.length+1))(Di:(r'.map cE).flatten=(((r.map cE).flatten)++[(aB (((aW 60 l mb tb).1)*((dL 1 99 l ((aW 60 l mb tb).2.1) ((aW 60 l mb tb).2.2)).1))),(aD ([]:List UInt8))]))(G9:Em=((dL 1 99 l ((aW 60 l mb tb).2.1) ((aW 60 l mb tb).2.2)).2.1))(Ha:Gg=((dL 1 99 l ((aW 60 l mb tb).2.1) ((aW 60 l mb tb).2.2)).2.2)):aA Tp 1 aAi (eN l nx st k most i R j r.length ((r.map cE).flatten) mb tb) .normal (eN l nx st k most i R j' r'.length ((r'.map cE).flatten) Em Gg):=by
 subst Bw G9 Ha;have k1:=mq [0] 6 (lW 60 l mb tb h2);have k2:=mq [0] 6 (aGm 1 99 l ((bFm l mb tb).2.1) ((bFm l mb tb).2.2) h3 h4);rw [Dh,Di];exact aA.fi (gI ay [1,2,3,7]) [bT,.x (aB 0),bT,k1.o,k2.o,bF] (gc h8 (gc h7 (gt ([(aB (((bFm l mb tb).1)*((bFl l mb tb).1))),(aD ([]:List UInt8))].length=2) (by first | decide | simp) (gc (bP h6) (gc h5 (gc k2 (gc k1 (gc bPy (gc (atm aB h1) (gc (ixn aB h1) (g0 h0)))))))))))
end
section
variable(h0:(j:Int)<((aJ k).length:Int))
include h0
theorem aWi{R:List (List Cel)}{r r':List Cel}(h1:(aJ k)[j]? = some 1)(h2:0≤mb∧mb≤1000000000)(h3:(j:Int)≠0)(h4:[(aB ((aW 360001 l mb tb).1)),(aD ([]:List UInt8))].length=1*2∧r.length+1≤1000000)(h5:cn j)(Bw:j'=(j+1))(Dh:r'.length=(r.length+1))(Di:(r'.map cE).flatten=(((r.map cE).flatten)++[(aB ((aW 360001 l mb tb).1)),(aD ([]:List UInt8))]))(G9:Em=((aW 360001 l mb tb).2.1))(Ha:Gg=((aW 360001 l mb tb).2.2)):aA Tp 1 aAi (eN l nx st k most i R j r.length ((r.map cE).flatten) mb tb) .normal (eN l nx st k most i R j' r'.length ((r'.map cE).flatten) Em Gg):=by
 subst Bw G9 Ha;have k1:=mq [0] 6 (lW 360001 l mb tb h2);rw [Dh,Di];exact aA.fi (gI ay [1,2,3,7]) [bT,.x (aB 1),bF,bT,k1.o,bF] (gc h5 (gc h4 (gt ([(aB ((aW 360001 l mb tb).1)),(aD ([]:List UInt8))].length=2) (by first | decide | simp) (gc (bP h3) (gc k1 (gt (((1:Int) == 1)=true) (by first | decide | simp) (gt (((1:Int) == 0)=false) (by first | decide | simp) (gc (atm aB h1) (gc (ixn aB h1) (g0 h0))))))))))
theorem aWj{R:List (List Cel)}{r:List Cel}{Dc:List UInt8}{Hb Hc:Int}{r':List Cel}(h1:(aJ k)[j]? = some 2)(h2:0≤mb∧mb≤1000000000)(h3:(-1000000≤5∧(5:Int)≤1000000) ∧ -1000000≤8∧(8:Int)≤1000000)(Fb:aF Tp 1 bFj (pW l nx st k most i R j r mb tb 0 ([]:List UInt8) ((dL 5 8 l mb tb).2.1) ((dL 5 8 l mb tb).2.2)) (.exit 7) (pW l nx st k most i R j r mb tb Im Dc Hb Hc))(h5:(j:Int)≠0)(h6:[(aB 0),(aD Dc)].length=1*2∧r.length+1≤1000000)(h7:cn j)(Bw:j'=(j+1))(Dh:r'.length=(r.length+1))(Di:(r'.map cE).flatten=(((r.map cE).flatten)++[(aB 0),(aD Dc)])):aA Tp 1 aAi (eN l nx st k most i R j r.length ((r.map cE).flatten) mb tb) .normal (eN l nx st k most i R j' r'.length ((r'.map cE).flatten) Hb Hc):=by
 subst Bw;have k1:=mq [0] 6 (aGm 5 8 l mb tb h2 h3);rw [Dh,Di];exact aA.fi (gI ay [1,2,3,7]) [bT,.x (aB 2),bF,bF,bT,k1.o,Fb.k 1 (gI an c8),bF] (gc h7 (gc h6 (gt ([(aB 0),(aD Dc)].length=2) (by first | decide | simp) (gc (bP h5) (gc Fb.code (gc k1 (gt (((2:Int) == 2)=true) (by first | decide | simp) (gt (((2:Int) == 1)=false) (by first | decide | simp) (gt (((2:Int) == 0)=false) (by first | decide | simp) (gc (atm aB h1) (gc (ixn aB h1) (g0 h0))))))))))))
theorem aWk{R:List (List Cel)}{r:List Cel}{Dc:List UInt8}{Hd He:Int}{r':List Cel}(h1:(aJ k)[j]? = some 3)(h2:0≤mb∧mb≤1000000000)(h3:(-1000000≤1∧(1:Int)≤1000000) ∧ -1000000≤12∧(12:Int)≤1000000)(Fb:aF Tp 1 bFk (pX l nx st k most i R j r mb tb 0 ([]:List UInt8) ((dL 1 12 l mb tb).2.1) ((dL 1 12 l mb tb).2.2)) (.exit 5) (pX l nx st k most i R j r mb tb Im Dc Hd He))(h5:(j:Int)≠0)(h6:[(aB 0),(aD Dc)].length=1*2∧r.length+1≤1000000)(h7:cn j)(Bw:j'=(j+1))(Dh:r'.length=(r.length+1))(Di:(r'.map cE).flatten=(((r.map cE).flatten)++[(aB 0),(aD Dc)])):aA Tp 1 aAi (eN l nx st k most i R j r.length ((r.map cE).flatten) mb tb) .normal (eN l nx st k most i R j' r'.length ((r'.map cE).flatten) Hd He):=by
 subst Bw;have k1:=mq [0] 6 (aGm 1 12 l mb tb h2 h3);rw [Dh,Di];exact aA.fi (gI ay [1,2,3,7]) [bT,.x (aB 3),bF,bF,bF,k1.o,Fb.k 1 (gI ao c8),bF] (gc h7 (gc h6 (gt ([(aB 0),(aD Dc)].length=2) (by first | decide | simp) (gc (bP h5) (gc Fb.code (gc k1 (gt (((3:Int) == 2)=false) (by first | decide | simp) (gt (((3:Int) == 1)=false) (by first | decide | simp) (gt (((3:Int) == 0)=false) (by first | decide | simp) (gc (atm aB h1) (gc (ixn aB h1) (g0 h0))))))))))))
end
theorem aWl{R:List (List Cel)}{r:List Cel}(h0:((aJ k).length:Int)≤(j:Int)):aA Tp 1 aAi (eN l nx st k most i R j r.length ((r.map cE).flatten) mb tb) (.exit 2) (eN l nx st k most i R j r.length ((r.map cE).flatten) mb tb):=aA.fi (gI ay [1,2,3,4]) [bF] (gc (bL h0) gn)
theorem aWm{R:List (List Cel)}{r:List Cel}{z z':List UInt8}{E7 Gf:Int}(h0:(q:Int)<((dL 5 8 l mb tb).1))(h1:0≤mc∧mc≤1000000000)(h2:0≤((aW 2 l mc tc).1)∧((aW 2 l mc tc).1)≤2∧(2:Int)≤2)(h3:0≤(0:Int)∧(0:Int)≤1∧(1:Int)≤((([120,111]:List UInt8).drop (((aW 2 l mc tc).1).toNat)).length:Int))(h4:z.length+((([120,111]:List UInt8).drop (((aW 2 l mc tc).1).toNat)).take 1).length≤4611686018427387904)(h5:cn q)(D7:q'=(q+1))(Kj:z'=(z++((([120,111]:List UInt8).drop (((aW 2 l mc tc).1).toNat)).take 1)))(Mx:E7=((aW 2 l mc tc).2.1))(My:Gf=((aW 2 l mc tc).2.2)):aA Tp 1 bFj (pW l nx st k most i R j r mb tb q z mc tc) .normal (pW l nx st k most i R j r mb tb q' z' E7 Gf):=by
 subst D7 Kj Mx My;have k1:=mq [0] 6 (lW 2 l mc tc h1);exact aA.fi (gI an c8) [bT,k1.o] (gc h5 (gc h4 (gc h3 (gc h2 (gc k1 (g0 h0))))))
theorem aWn{R:List (List Cel)}{r:List Cel}{z:List UInt8}(h0:((dL 5 8 l mb tb).1)≤(q:Int)):aA Tp 1 bFj (pW l nx st k most i R j r mb tb q z mc tc) (.exit 7) (pW l nx st k most i R j r mb tb q z mc tc):=aA.fi (gI an c8) [bF] (gc (bL h0) gn)
theorem aWo{R:List (List Cel)}{r:List Cel}{z z':List UInt8}{Om On:Int}(h0:(q:Int)<((dL 1 12 l mb tb).1))(h1:0≤md∧md≤1000000000)(h2:inR ((97:Int)+((aW 26 l md td).1)))(h3:0≤(IntKind.wrap .i32 ((97:Int)+((aW 26 l md td).1)))∧(IntKind.wrap .i32 ((97:Int)+((aW 26 l md td).1)))<128)(h4:z.length+[UInt8.ofNat ((IntKind.wrap .i32 ((97:Int)+((aW 26 l md td).1)))).toNat].length≤4611686018427387904)(h5:cn q)(D7:q'=(q+1))(Kj:z'=(z++[UInt8.ofNat ((IntKind.wrap .i32 ((97:Int)+((aW 26 l md td).1)))).toNat]))(Mz:Om=((aW 26 l md td).2.1))(M3:On=((aW 26 l md td).2.2)):aA Tp 1 bFk (pX l nx st k most i R j r mb tb q z md td) .normal (pX l nx st k most i R j r mb tb q' z' Om On):=by
 subst D7 Kj Mz M3;have k1:=mq [0] 6 (lW 26 l md td h1);exact aA.fi (gI ao c8) [bT,k1.o] (gc h5 (gc h4 (gc h3 (gc h2 (gc k1 (g0 h0))))))
theorem aWp{R:List (List Cel)}{r:List Cel}{z:List UInt8}(h0:((dL 1 12 l mb tb).1)≤(q:Int)):aA Tp 1 bFk (pX l nx st k most i R j r mb tb q z md td) (.exit 5) (pX l nx st k most i R j r mb tb q z md td):=aA.fi (gI ao c8) [bF] (gc (bL h0) gn)
end
end KV
end Go.Proofs
section
namespace Go.Proofs
open Go.RowKit
namespace KV
open Tryz
variable {P:Program} {C C0:Cx} {M M0:Mem} {w w0:World}

def vB(w:World)(b:Nat):Prop:=∃ o:Obj,w.heap[b]? = some o∧o.isCells=true
theorem tA{b o:Nat}{v:Value}(h:w.cell? ⟨b,o,none⟩=some v):vB w b:=cells_of_cell h
theorem nN{b ty:Nat}{arr:Array Value}{fr:Nat × Nat}(h:w.heap[b]? = some (.cells arr ty fr)):vB w b:=⟨_,h,rfl⟩

mutual
def nmP:PV→Bool
 | .v _=>true
 | .sl _ cs=>iQ cs
 | .agg cs=>iQ cs
 | .mp _=>false
 | .rp cs _=>iQ cs
 | .fn _ a b=>iQ a && iQ b
def iQ:List PV→Bool
 | []=>true
 | x::r=>nmP x && iQ r
end
theorem mA:∀ {l:List PV},iQ l=true→∀ (i:Nat) (h:i<l.length),nmP l[i]=true
 | [],_,i,h=>by simp at h
 | x::r,hl,i,h=>by
  rw [iQ,Bv] at hl
  cases i with
  | zero=>exact hl.1
  | succ i=>exact mA hl.2 i (by simpa using h)
mutual
def nmA:AV→Bool
 | .p x=>nmP x
 | .rp cs _=>iQ cs
 | .agg l=>nmL l
 | .tup l=>nmL l
 | .fn _ a b=>nmL a && nmL b
 | _=>true
def nmL:List AV→Bool
 | []=>true
 | x::r=>nmA x && nmL r
end
theorem wG:∀ {l:List AV},nmL l=true→∀ (i:Nat) (h:i<l.length),nmA l[i]=true
 | [],_,i,h=>by simp at h
 | x::r,hl,i,h=>by
  rw [nmL,Bv] at hl
  cases i with
  | zero=>exact hl.1
  | succ i=>exact wG hl.2 i (by simpa using h)
def nmM:Mem→Bool
 | []=>true
 | some (.row _ _ cs)::r=>iQ cs && nmM r
 | some (.box _ l)::r=>nmL l && nmM r
 | _::r=>nmM r
theorem aPo:∀ {m:Mem},nmM m=true→(∀ (i ty n:Nat) (cs:List PV),m[i]? = some (some (.row ty n cs))→iQ cs=true)∧∀ (i ty:Nat) (l:List AV),m[i]? = some (some (.box ty l))→nmL l=true
 | [],_=>⟨fun i ty n cs h=>by simp at h,fun i ty l h=>by simp at h⟩
 | x::r,hm=>by
  have hr:nmM r=true:=by
   cases x with
   | none=>exact hm
   | some o=>cases o <;> simp [nmM] at hm <;> first | exact hm.2 | exact hm
  obtain ⟨h1,h2⟩:=aPo hr;refine ⟨fun i ty n cs h => ?_,fun i ty l h => ?_⟩
  ·cases i with
   | zero=>simp at h;subst h;simp [nmM] at hm;exact hm.1
   | succ i=>exact h1 i ty n cs (by simpa using h)
  ·cases i with
   | zero=>simp at h;subst h;simp [nmM] at hm;exact hm.1
   | succ i=>exact h2 i ty l (by simpa using h)
theorem cU.shrink{F F':Nat→Prop}{x:PV}{u:Value}(h:cU F w x u)(hF:∀ b,F b→vB w b→F' b)(hm:nmP x=true):cU F' w x u:=by
 induction h with
 | v x=>exact .v x
 | sl n cs p cap us h1 h2 h3 _ h5 ih =>
  rw [nmP] at hm
  refine .sl n cs p cap us h1 h2 (fun i hi => ?_) (fun i hi=>ih i hi (mA hm i hi)) h5
  obtain ⟨b,o,hp,hb,hc⟩:=h3 i hi;exact ⟨b,o,hp,hF b hb (tA hc),hc⟩
 | agg cs vs h0 h1 _ ih =>
  rw [nmP] at hm
  exact .agg cs vs h0 h1 fun i hi=>ih i hi (mA hm i hi)
 | mp=>simp [nmP] at hm
 | rp cs off b o us h1 _ h3 ih =>
  rw [nmP] at hm
  exact .rp cs off b o us (fun i hi=>⟨hF b (h1 i hi).1 (tA (h1 i hi).2),(h1 i hi).2⟩) (fun i hi=>ih i hi (mA hm i hi)) h3
 | fn f cs ds us vs h1 h2 _ _ Gp Gq =>
  rw [nmP,Bv] at hm
  exact .fn f cs ds us vs h1 h2 (fun i hi=>Gp i hi (mA hm.1 i hi)) fun i hi=>Gq i hi (mA hm.2 i hi)
theorem Rep.shrink{F':Nat→Prop}{x:AV}{u:Value}(h:Rep C M w x u)(hF:∀ b,C.F b→vB w b→F' b)(hm:nmA x=true):Rep ⟨C.ι,C.κ,F',[]⟩ M w x u:=by
 induction h with
 | p x u h=>exact .p x u (h.shrink hF (by simpa [nmA] using hm))
 | any u=>exact .any u
 | kb b=>exact .kb b
 | yld l=>exact .yld l
 | own id u h0 ha h=>exact .own id u h0 ha h
 | arr id off n u h0 ha h=>exact .arr id off n u h0 ha h
 | ptr id off u h0 ha h hp=>exact .ptr id off u h0 ha h hp
 | mp id u h0 ha h=>exact .mp id u h0 ha h
 | pa id q u h0 ha h=>exact .pa id q u h0 ha h
 | rp cs off b o us h1 h2 h3 =>
  have Cq:iQ cs=true:=by simpa [nmA] using hm
  exact .rp cs off b o us (fun i hi=>⟨hF b (h1 i hi).1 (tA (h1 i hi).2),(h1 i hi).2⟩) (fun i hi=>(h2 i hi).shrink hF (mA Cq i hi)) h3
 | agg cs vs h0 h1 _ ih =>
  have Cq:nmL cs=true:=by simpa [nmA] using hm
  exact .agg cs vs h0 h1 fun i hi=>ih i hi (wG Cq i hi)
 | tup cs vs h1 _ ih =>
  have Cq:nmL cs=true:=by simpa [nmA] using hm
  exact .tup cs vs h1 fun i hi=>ih i hi (wG Cq i hi)
 | fn f cs ds us vs h1 h2 _ _ Gp Gq =>
  have Cq:nmL cs=true∧nmL ds=true:=by simpa [nmA] using hm
  exact .fn f cs ds us vs h1 h2 (fun i hi=>Gp i hi (wG Cq.1 i hi)) fun i hi=>Gq i hi (wG Cq.2 i hi)

def cCq(M:Mem):Prop:=(∀ (i:Nat) (es:List (Value × PV)) (cl:Nat),M[i]? ≠ some (some (.mp es cl)))∧xR M
def oN:Mem→Bool
 | []=>true
 | some (.pk _ _ _ _)::_=>false
 | some (.mp _ _)::_=>false
 | _::r=>oN r
theorem eR:∀ {m:Mem},oN m=true→cCq m
 | [],_=>⟨fun i es cl h=>by simp at h,fun i o h=>by simp at h⟩
 | none::r,hm=>by
  obtain ⟨h1,h2⟩:=eR (m:=r) hm;refine ⟨fun i es cl h => ?_,fun i o h => ?_⟩
  ·cases i with
   | zero=>simp at h
   | succ i=>exact h1 i es cl (by simpa using h)
  ·cases i with
   | zero=>simp at h
   | succ i=>exact h2 i o (by simpa using h)
 | some x::r,hm=>by
  have hr:oN r=true∧x.isPk=false∧∀ es cl,x ≠ .mp es cl:=by
   cases x with
   | pk=>simp [oN] at hm
   | mp=>simp [oN] at hm
   | _=>exact ⟨by simpa [oN] using hm,rfl,fun _ _ e=>by cases e⟩
  obtain ⟨h1,h2⟩:=eR (m:=r) hr.1;refine ⟨fun i es cl h => ?_,fun i o h => ?_⟩
  ·cases i with
   | zero=>simp at h;exact hr.2.2 _ _ h
   | succ i=>exact h1 i es cl (by simpa using h)
  ·cases i with
   | zero=>simp at h;rw [← h];exact hr.2.1
   | succ i=>exact h2 i o (by simpa using h)

theorem aZt{W:World}{b:Nat}{cs:Array Value}(h:vW W b=some cs):vB W b:=by
 unfold vW at h
 split at h
 ·rename_i he
  exact nN he
 ·cases h
theorem rM{W:World}{b:Nat}{o:Obj}(h:W.heap[b]? = some o)(ho:o.isCells=false):¬ vB W b:=fun ⟨o',h',hc⟩=>by rw [h] at h';cases h';rw [ho] at hc;cases hc

structure KpG (F:Nat→Prop) (A B:World):Prop where
 size:A.heap.size≤B.heap.size
 same:∀ b,F b→B.heap[b]? = A.heap[b]?
theorem KpG.refl(F:Nat→Prop)(A:World):KpG F A A:=⟨Bb _,fun _ _=>rfl⟩
theorem KpG.trans{F:Nat→Prop}{A B D:World}(h:KpG F A B)(k:KpG F B D):KpG F A D:=⟨iL h.size k.size,fun b hb=>(k.same b hb).trans (h.same b hb)⟩

theorem bHz{ro:Option Nat}{n:Nat}:(Fen ro).room n:=fun d hd=>by cases hd
theorem aPp{ro:Option Nat}{n m:Nat}{c:Code}{Q:Exit→Act→World→Prop}{a:Act}(h:c.wpIn (Fen ro) n P Q a w):c.wpIn (Fen ro) m P Q a w:=fun b k cs hro hb _=>h b k cs hro hb bHz

theorem Kt(p q:Nat)(a b:Value)(t:Array Value):(#[p,q].zip #[a,b]).foldl (fun t (x:Nat × Value)=>t.setIfInBounds x.1 x.2) t=(t.setIfInBounds p a).setIfInBounds q b:=by simp

end KV
end Go.Proofs
end
section
namespace Go.Proofs
open Go.RowKit
namespace KV
open Tryz
variable {P:Program} {C C1:Cx} {M M':Mem} {w W:World} {b:Nat}
theorem nM(v:Value){c:Nat}(h:c≠b):(W.setCell ⟨b,0,none⟩ v).heap[c]? = W.heap[c]? := Below.heap_setCell _ _ _ _ (fun e=>h e)
end KV
end Go.Proofs
end
section
namespace Go.Proofs
open Go.RowKit
namespace KV
open Tryz
variable {P:Program} {C:Cx} {M:Mem} {w:World} {b:Nat}
theorem vA:∀ {M:Mem} {n:Nat} {x:Option AO},n<M.length→(aZ M n x).length=M.length
 | [],_,_,h=>by simp at h
 | y::l,0,x,_=>rfl
 | y::l,n+1,x,h=>by
  show (aZ l n x).length+1=l.length+1;rw [vA (by simpa using h)]
def oM(M M':Mem):Prop:=∀ (id:Nat) (es:List (Value × PV)) (cl:Nat),M'[id]? = some (some (.mp es cl))→(∃ o:AO,M[id]? = some (some o))∧∀ j (h:j<es.length),nmP es[j].2=true
theorem oM.no{M M':Mem}(h:oN M'=true):oM M M':=fun id es cl hm=>absurd hm ((eR h).1 _ _ _)
def gK(w:World)(b:Nat)(W:World):World:={ w with heap:=w.heap.setIfInBounds b (W.heap.getD b (.cells #[] 0 (0,0))) }
theorem cF(w:World)(b:Nat)(W:World):(gK w b W).heap.size=w.heap.size:=by simp [gK]
theorem aKx{w:World}{b:Nat}{W:World}(h:b<w.heap.size)(h2:b<W.heap.size):(gK w b W).heap[b]? = W.heap[b]? := by
 simp [gK,h,h2,Array.getD]
theorem qJ{w:World}{b c:Nat}{W:World}(h:c≠b):(gK w b W).heap[c]? = w.heap[c]? := by
 simp [gK,Ne.symm h]
structure aKy (C:Cx) (M:Mem) (w:World) (b:Nat):Prop where
 nF:¬ C.F b
 nL:∀ (id:Nat) (o:AO),M[id]? = some (some o)→o.live=true→C.ι id≠some b
 lt:b<w.heap.size
 Fs:∀ c,C.F c→c<w.heap.size
 ls:∀ (id:Nat) (o:AO) (c:Nat),M[id]? = some (some o)→o.live=true→C.ι id=some c→c<w.heap.size
def pC(P:Program)(C:Cx)(M:Mem)(w:World)(b:Nat)(M':Mem)(W:World):Prop:=∃ C',aX P C' M' W∧Fr C M (gK w b W) C' M' W
theorem pC.nF{M':Mem}{W:World}{C':Cx}(hA:aKy C M w b)(f:Fr C M (gK w b W) C' M' W):¬ C'.F b:=fun h=>by
 rcases f.F2 b h with h | h | ⟨Ef,o0,q1,q2,q3⟩
 ·exact hA.nF h
 ·rw [cF] at h;have:=hA.lt;omega
 ·exact hA.nL _ _ q1 q2 q3
theorem pC.nL{M':Mem}{W:World}{C':Cx}(hA:aKy C M w b)(f:Fr C M (gK w b W) C' M' W):∀ (id:Nat) (o:AO),M'[id]? = some (some o)→o.live=true→C'.ι id≠some b:=fun id o ho hl he=>by
 rcases f.new id o b ho hl he with h | ⟨Ef,o0,q1,q2,q3⟩
 ·rw [cF] at h;have:=hA.lt;omega
 ·exact hA.nL _ _ q1 q2 q3
theorem aSp{M':Mem}{W w1:World}{C':Cx}(hmp:oM M M')(hls:∀ (id:Nat) (o:AO) (c:Nat),M[id]? = some (some o)→o.live=true→C.ι id=some c→c<w.heap.size)(f:Fr C M w1 C' M' W){id:Nat}{es:List (Value × PV)}{cl c:Nat}(hm:M'[id]? = some (some (.mp es cl)))(hb:C'.ι id=some c):c<w.heap.size:=by
 obtain ⟨⟨o,ho⟩,_⟩:=hmp _ _ _ hm;have hl:=f.liv _ _ ho _ hm rfl;rw [(f.ids _ _ ho).2.1] at hb
 exact hls _ _ _ ho hl hb
theorem cCp{M':Mem}{W:World}(hmp:oM M M')(hq:nmM M'=true)(hF:∀ b,C.F b→b<w.heap.size){C':Cx}(hM:aX P C' M' W)(f:Fr C M w C' M' W) :
  ∃ F':Nat→Prop,aX P ⟨C'.ι,C'.κ,F',[]⟩ M' W∧Fr C M w ⟨C'.ι,C'.κ,F',[]⟩ M' W∧(∀ b,F' b→C'.F b)∧(∀ b,F' b→b<w.heap.size∨vB W b):=by
 refine ⟨fun b=>C'.F b∧(b<w.heap.size∨vB W b),⟨fun i ty n cs hm => ?_,fun i ty cs hm => ?_,fun i es cl hm => ?_,hM.inj,fun i o b ho hl hb hf=>hM.nF i o b ho hl hb hf.1,fun b hb=>hM.Fs b hb.1,hM.lt,fun p hp=>let ⟨h1,cs,h2,h3⟩:=hM.lib p hp;⟨⟨h1,.inr (aZt h2)⟩,cs,h2,h3⟩⟩,
  ⟨f.os,f.tape,f.out,f.size,f.keep,f.ids,f.row,f.liv,f.new,fun b hb=>⟨f.F1 b hb,.inl (hF b hb)⟩,fun b hb=>f.F2 b hb.1⟩,fun b hb=>hb.1,fun b hb=>hb.2⟩
 ·rcases hM.row _ _ _ _ hm with h4 | ⟨b,arr,inf,q0,q1,q2,q3,q4,q5,q6,q7,q8⟩
  ·exact .inl h4
  ·exact .inr ⟨b,arr,inf,q0,q1,q2,q3,q4,q5,q6,fun j hj=>(q7 j hj).shrink (fun b hb hs=>⟨hb,.inr hs⟩) (mA ((aPo hq).1 _ _ _ _ hm) j hj),q8⟩
 ·obtain ⟨b,arr,q0,q1,q2,q3,q4⟩:=hM.box _ _ _ hm
  exact ⟨b,arr,q0,q1,q2,fun j hj=>(q3 j hj).shrink (fun b hb hs=>⟨hb,.inr hs⟩) (wG ((aPo hq).2 _ _ _ hm) j hj),q4⟩
 ·obtain ⟨b,arr,q0,q1,q2,q3⟩:=hM.mp _ _ _ hm
  refine ⟨b,arr,q0,q1,q2,fun j hj => ?_⟩
  obtain ⟨en,r1,r2,r3,r4⟩:=q3 j hj;exact ⟨en,r1,r2,r3,r4.shrink (fun b hb hs=>⟨hb,.inr hs⟩) ((hmp _ _ _ hm).2 j hj)⟩
theorem pC.own{M':Mem}{W W':World}{row:Option Nat}(hmp:oM M M')(hq:nmM M'=true)(hA:aKy C M w b)(h:pC P C M w b M' W)(hg:W.grownBy W' row)
  (hr:∀ r,row=some r→w.heap.size≤r∧∃ o:Obj,W.heap[r]? = some o∧o.isCells=false):pC P C M w b M' W':=by
 obtain ⟨C1,h1,h2⟩:=h;obtain ⟨F',hM,f,hFF,hS⟩:=cCp hmp hq (by rw [cF];exact hA.Fs) h1 h2
 have hwW:w.heap.size≤W.heap.size:=by have:=h2.size;rw [cF] at this;exact this
 have hsame:∀ b,b<W.heap.size→(b<w.heap.size∨vB W b)→W'.heap[b]? = W.heap[b]? := fun b hb hd=>hg.block b hb (fun e=>by
  obtain ⟨q1,o,q2,q3⟩:=hr b e.symm
  rcases hd with hd | hd
  ·omega
  ·exact rM q2 q3 hd)
 rw [cF] at hS
 have hFz:∀ b,F' b→W'.heap[b]? = W.heap[b]? := fun b hb=>hsame b (hM.Fs b hb) (hS b hb)
 have hL:Le ⟨C1.ι,C1.κ,F',[]⟩ ⟨C1.ι,C1.κ,F',[]⟩ M' M' W W':=⟨fun _ o h=>⟨o,h⟩,fun _ _ _ _ _ cs h=>⟨cs,h⟩,fun _ o h o' h' hl=>by rw [h] at h';cases h';exact ⟨hl,rfl,rfl⟩,fun _ h=>h,hFz⟩
 refine ⟨⟨C1.ι,C1.κ,F',[]⟩,⟨fun i ty n cs hm => ?_,fun i ty cs hm => ?_,fun i es cl hm => ?_,hM.inj,hM.nF,fun b hb=>uL (hM.Fs b hb) hg.size,fun i o b ho hl hb=>uL (hM.lt i o b ho hl hb) hg.size,hM.lib.le hL⟩,
  ⟨hg.os.trans f.os,hg.tape.trans f.tape,hg.output.trans f.out,by rw [cF];exact iL hwW hg.size,fun c hc hno => ?_,f.ids,f.row,f.liv,fun id o c h q r=>by have:=f.new id o c h q r;rw [cF] at this ⊢;exact this,f.F1,fun c h=>by have:=f.F2 c h;rw [cF] at this ⊢;exact this⟩⟩
 ·rcases hM.row _ _ _ _ hm with h4 | ⟨b,arr,inf,q0,q1,q2,q3,q4,q5,q6,q7,q8⟩
  ·exact .inl h4
  ·exact .inr ⟨b,arr,inf,q0,(hsame b (mD.1 q1).1 (.inr (nN q1))).trans q1,q2,q3,q4,q5,q6,fun j hj=>(q7 j hj).mono hL.F hL.fz,q8⟩
 ·obtain ⟨b,arr,q0,q1,q2,q3,q4⟩:=hM.box _ _ _ hm
  exact ⟨b,arr,q0,(hsame b (mD.1 q1).1 (.inr (nN q1))).trans q1,q2,fun j hj=>(q3 j hj).mono hL,q4⟩
 ·obtain ⟨b,arr,q0,q1,q2,q3⟩:=hM.mp _ _ _ hm
  refine ⟨b,arr,q0,(hsame b (mD.1 q1).1 (.inl (aSp hmp hA.ls f hm q0))).trans q1,q2,fun j hj => ?_⟩
  obtain ⟨en,r1,r2,r3,r4⟩:=q3 j hj;exact ⟨en,r1,r2,r3,r4.mono hL.F hL.fz⟩
 ·rw [cF] at hc
  by_cases e:c=b
  ·subst e
   rw [aKx hc (uL hc (iL hwW hg.size))]
  ·rw [qJ e]
   have:=f.keep c (by rw [cF];exact hc) hno
   rw [qJ e] at this
   exact (hsame c (uL hc hwW) (.inl hc)).trans this
theorem pC.set{M':Mem}{W:World}(hA:aKy C M w b)(h:pC P C M w b M' W)(v:Value):pC P C M w b M' (W.setCell ⟨b,0,none⟩ v):=by
 obtain ⟨C1,h1,h2⟩:=h;have hFb:=pC.nF hA h2;have hlb:=pC.nL hA h2;have hsz:(W.setCell ⟨b,0,none⟩ v).heap.size=W.heap.size:=by simp [World.setCell]
 have hwW:w.heap.size≤W.heap.size:=by have:=h2.size;rw [cF] at this;exact this
 have hFz:∀ c,C1.F c→(W.setCell ⟨b,0,none⟩ v).heap[c]? = W.heap[c]? := fun c hc=>nM v (fun e=>hFb (e ▸ hc))
 have hL:Le C1 C1 M' M' W (W.setCell ⟨b,0,none⟩ v):=⟨fun _ o h=>⟨o,h⟩,fun _ _ _ _ _ cs h=>⟨cs,h⟩,fun _ o h o' h' hl=>by rw [h] at h';cases h';exact ⟨hl,rfl,rfl⟩,fun _ h=>h,hFz⟩
 refine ⟨C1,⟨fun i ty n cs hm => ?_,fun i ty cs hm => ?_,fun i es cl hm => ?_,h1.inj,h1.nF,fun c hc=>by rw [hsz];exact h1.Fs c hc,fun i o c ho hl hb=>by rw [hsz];exact h1.lt i o c ho hl hb,h1.lib.le hL⟩,
  ⟨h2.os,h2.tape,h2.out,by rw [hsz,cF];exact hwW,fun c hc hno => ?_,h2.ids,h2.row,h2.liv,fun id o c h q r=>by have:=h2.new id o c h q r;rw [cF] at this ⊢;exact this,h2.F1,fun c h=>by have:=h2.F2 c h;rw [cF] at this ⊢;exact this⟩⟩
 ·rcases h1.row _ _ _ _ hm with h4 | ⟨c,arr,inf,q0,q1,q2,q3,q4,q5,q6,q7,q8⟩
  ·exact .inl h4
  ·exact .inr ⟨c,arr,inf,q0,(nM v (fun (e:c=b)=>hlb _ _ hm rfl (by rw [← e];exact q0))).trans q1,q2,q3,q4,q5,q6,fun j hj=>(q7 j hj).mono hL.F hL.fz,q8⟩
 ·obtain ⟨c,arr,q0,q1,q2,q3,q4⟩:=h1.box _ _ _ hm
  exact ⟨c,arr,q0,(nM v (fun (e:c=b)=>hlb _ _ hm rfl (by rw [← e];exact q0))).trans q1,q2,fun j hj=>(q3 j hj).mono hL,q4⟩
 ·obtain ⟨c,arr,q0,q1,q2,q3⟩:=h1.mp _ _ _ hm
  refine ⟨c,arr,q0,(nM v (fun (e:c=b)=>hlb _ _ hm rfl (by rw [← e];exact q0))).trans q1,q2,fun j hj => ?_⟩
  obtain ⟨en,r1,r2,r3,r4⟩:=q3 j hj;exact ⟨en,r1,r2,r3,r4.mono hL.F hL.fz⟩
 ·rw [cF] at hc
  by_cases e:c=b
  ·subst e
   rw [aKx hc (by rw [hsz];omega)]
  ·rw [qJ e,nM v e]
   have:=h2.keep c (by rw [cF];exact hc) hno
   rw [qJ e] at this
   exact this
theorem pC.back{bx:Nat}{o:AO}{M':Mem}{W:World}{C':Cx}(ho:M[bx]? = some (some o))(hl:o.live=true)(hb:C.ι bx=some b)(hbl:b<w.heap.size)(f:Fr (C.close bx false) (aZ M bx (some .dead)) (gK w b W) C' M' W):Fr C M w C' M' W:=by
 have h1:=cV (C:=C) (w:=w) false ho hl;refine ⟨f.os,f.tape,f.out,by have:=f.size;rw [cF] at this;exact this,fun c hc hno => ?_,fun id o1 h => ?_,fun id o1 h ty n cs hm => ?_,fun id o1 h o2 hm Bp => ?_,fun id o1 c h q r => ?_,fun c h=>f.F1 c (h1.F1 c h),fun c h => ?_⟩
 ·have hne:c≠b:=fun e=>hno bx o ho hl (by rw [e];exact hb)
  have:=f.keep c (by rw [cF];exact hc) (fun id o1 h2 h3 h4=>by
   rcases h1.new id o1 c h2 h3 h4 with q | ⟨Ef,o0,q1,q2,q3⟩
   ·omega
   ·exact hno _ _ q1 q2 q3)
  rw [qJ hne] at this
  exact this
 ·obtain ⟨⟨o2,h2⟩,h3,h4⟩:=h1.ids id o1 h
  obtain ⟨h5,h6,h7⟩:=f.ids id o2 h2;exact ⟨h5,h6.trans h3,h7.trans h4⟩
 ·obtain ⟨⟨o2,h2⟩,_⟩:=h1.ids id o1 h
  obtain ⟨Bh,h3⟩:=f.row id o2 h2 _ _ _ hm;exact h1.row id o1 h _ _ _ h3
 ·obtain ⟨⟨o3,h3⟩,_⟩:=h1.ids id o1 h
  exact h1.liv id o1 h o3 h3 (f.liv id o3 h3 o2 hm Bp)
 ·rcases f.new id o1 c h q r with h2 | ⟨Ef,o0,q1,q2,q3⟩
  ·rw [cF] at h2;exact .inl h2
  ·exact h1.new _ _ _ q1 q2 q3
 ·rcases f.F2 c h with h2 | h2 | ⟨Ef,o0,q1,q2,q3⟩
  ·exact h1.F2 c h2
  ·rw [cF] at h2;exact .inr (.inl h2)
  ·rcases h1.new _ _ _ q1 q2 q3 with h4 | h4
   ·exact .inr (.inl h4)
   ·exact .inr (.inr h4)
theorem aZs{fid bx:Nat}{o:AO}{u:Value}(h:Rep C M w (.fn fid [] [.ptr bx 0]) u)(ho:M[bx]? = some (some o))(hl:o.live=true):∃ c,u = .func (.func fid) #[] #[.pointer (some ⟨c,0,none⟩)]∧C.ι bx=some c:=by
 cases h with
 | fn _ _ _ us vs h1 h2 h3 h4 =>
  have e1:us = #[]:=Array.eq_empty_of_size_eq_zero (by simpa using h1)
  subst e1;have h5:=h4 0 (by simp)
  obtain ⟨v,rfl⟩:∃ v,vs = #[v]:=by
   have:vs.size=1:=by simpa using h2
   exact ⟨vs[0],by ext i G3 Et;(· simpa using this);(· have:i=0:=(by omega);subst this;rfl)⟩
  simp at h5
  cases h5 with
  | ptr _ _ _ _ _ q _ =>
   obtain ⟨c,rfl,q2⟩:=q o ho hl;exact ⟨c,rfl,q2⟩
def itB{X β ε:Type}(f:β→X→Except ε β):β→List X→Except ε β
 | a,[] => .ok a
 | a,x::r=>match f a x with
  | .ok a'=>itB f a' r
  | .error e => .error e
theorem aKz{X β ε:Type}(f:β→X→Except ε β):∀ (l:List X) (a:β) (x:X),itB f a (l++[x])=match itB f a l with
  | .ok a'=>f a' x
  | .error e => .error e
 | [],a,x=>by
  show (match f a x with | .ok a'=>itB f a' [] | .error e => .error e)=f a x
  cases f a x <;> rfl
 | y::l,a,x=>by
  show (match f a y with | .ok a'=>itB f a' (l++[x]) | .error e => .error e)=_
  show _=match (match f a y with | .ok a'=>itB f a' l | .error e => .error e) with | .ok a'=>f a' x | .error e => .error e
  cases f a y with
  | ok a'=>exact aKz f l a' x
  | error e=>rfl
theorem aEp{X β ε:Type}(f:β→X→Except ε β){e:ε}:∀ (l m:List X) (a:β),itB f a l = .error e→itB f a (l++m) = .error e
 | [],m,a,h=>by cases h
 | y::l,m,a,h=>by
  have h':(match f a y with | .ok a'=>itB f a' l | .error e => .error e) = .error e:=h
  show (match f a y with | .ok a'=>itB f a' (l++m) | .error e => .error e) = .error e
  cases hf:f a y with
  | ok a'=>rw [hf] at h';exact aEp f l m a' h'
  | error e'=>rw [hf] at h';exact h'
end KV
end Go.Proofs
end
section
namespace Go.Proofs
open Go.RowKit
namespace KV
open Tryz
attribute [local go_sem] Oper.semAt_some
def qK:Nat→List UInt8→List (List UInt8 × Bool)
 | 0,_=>[]
 | k+1,s=>if s=[] then [] else ((Lib.cut s [10]).1,(Lib.cut s [10]).2.2)::qK k (Lib.cut s [10]).2.1
def bW(s:List UInt8):List (List UInt8 × Bool):=qK s.length s
theorem tB{s x:List UInt8}(h:s≠[])(hx:x≠[]):(Lib.cut s x).2.1.length<s.length:=by
 have h1:=List.length_pos_iff.2 h;have h2:=List.length_pos_iff.2 hx;unfold Lib.cut
 split
 ·rw [xV];omega
 ·exact h1
theorem sA:∀ (k j:Nat) (s:List UInt8),s.length≤k→s.length≤j→qK k s=qK j s
 | 0,j,s,h,_=>by
  have:s=[]:=pA (by omega)
  subst this;cases j <;> simp [qK]
 | k+1,0,s,_,h=>by
  have:s=[]:=pA (by omega)
  subst this;simp [qK]
 | k+1,j+1,s,h,h2=>by
  unfold qK
  by_cases hs:s=[]
  ·rw [if_pos hs,if_pos hs]
  ·rw [if_neg hs,if_neg hs]
   have:=tB (s:=s) (x:=[10]) hs (by simp)
   rw [sA k j _ (by omega) (by omega)]
theorem lI:bW []=[]:=rfl
theorem eO{s:List UInt8}(h:s≠[]):bW s=((Lib.cut s [10]).1,(Lib.cut s [10]).2.2)::bW (Lib.cut s [10]).2.1:=by
 have h1:=List.length_pos_iff.2 h;have h2:=tB (s:=s) (x:=[10]) h (by simp)
 unfold bW;obtain ⟨k,hk⟩:∃ k,s.length=k+1:=⟨s.length-1,by omega⟩
 rw [hk,qK,if_neg h];rw [sA k (Lib.cut s [10]).2.1.length _ (by omega) (Bb _)]
theorem tC:∀ (k:Nat) (s:List UInt8),s.length≤k→(bW s).length≤s.length
 | 0,s,h=>by
  have:s=[]:=pA (by omega)
  subst this;exact Bb _
 | k+1,s,h=>by
  by_cases hs:s=[]
  ·subst hs;exact Bb _
  ·have:=tB (s:=s) (x:=[10]) hs (by simp)
   have:=tC k (Lib.cut s [10]).2.1 (by omega)
   rw [eO hs,eY];omega
end KV
end Go.Proofs
end
section
namespace Go.Proofs
open Go.RowKit Go.Lib Go.Shelf
namespace KV
open Tryz
attribute [local go_sem] Oper.semAt_some
def aLa(W:World)(b:Nat):Nat:=match W.cell? ⟨b,0,none⟩ with
 | some (.string s)=>s.size
 | _=>0
theorem bYg{A B:World}(h:Below A.heap.size A B):A.grownBy B none:=⟨h.os,h.tape,h.output,h.size,fun b hb _=>h.block b hb⟩
set_option maxRecDepth 1000000 in
set_option maxHeartbeats 2000000 in
theorem aLb(s:List UInt8)(hs:s.length<100000)(m:Int)(F0:Nat→Prop)(n l b:Nat)(hn:1≤n)(J Jx:List (List UInt8 × Bool)→World→Prop)
  (hY:∀ pre (x:List UInt8 × Bool) W,J pre W→pre++[x] <+: bW s→YieldAt Fence.wide (n-1) Tp l #[.string ⟨x.1.toArray⟩,.bool x.2] W fun e W' =>
   (e = .returned (.bool true)∧J (pre++[x]) W'∧KpG F0 W W')∨(e = .returned (.bool false)∧Jx (pre++[x]) W'))
  (W:World) (hJ:AbidesFrom W.heap.size J) (Jz:F0 0) (hFb:F0 b) (Gj:b≠0)
  (hJb:∀ pre A v,J pre A→J pre (A.setCell ⟨b,0,none⟩ v))
  (hm:W.cell? ⟨0,0,none⟩=some (.int .i64 m)) (hbox:Boxed W b 9 (.string ⟨s.toArray⟩)) (h0:J [] W) :
  CallsIn Fence.wide n Tp 175 #[.func (.yield l) #[] #[],.pointer (some ⟨b,0,none⟩)] W fun e W'=>(∃ v,e = .returned v) ∧
   ((∃ ys,ys=bW s∧J ys W')∨(∃ pre,pre <+: bW s∧Jx pre W')):=by
 have HJ:=hid hJ;have HY:=hid hY;have HJB:=hid hJb;have HB0:=hid hbox;have HJ0:=hid h0;have HM0:=hid hm;clear hJ hY hJb hbox h0 hm;refine callsIn_of_wp func175 rfl trivial ?_ rfl;simp only [Tryz.ntmps175,List.size_toArray,eY,List.length_nil,Nat.reduceAdd,Nat.reduceSub,Array.replicate_succ,Array.replicate_zero,List.push_toArray,List.append_toArray,List.nil_append,List.cons_append]
 gi_wp2
 gi_loopw [3] (fun _ wr=>∃ (pre:List (List UInt8 × Bool)) (t:List UInt8),J pre wr∧pre++bW t=bW s∧t.length≤s.length∧wr.cell? ⟨0,0,none⟩=some (.int .i64 m)∧Boxed wr b 9 (.string ⟨t.toArray⟩))
  (fun _ wr=>aLa wr b)
 case atStart=>exact ⟨[],s,HJ0.out,rfl,Bb _,HM0.out,HB0.out⟩
 case round =>
  obtain ⟨pre,t,hJp,hpre,htl,hm,hB⟩:=hrel;have hc:=hB.cell;have HJP:=hid hJp;have HPRE:=hid hpre;have HM:=hid hm;have HB:=hid hB;clear hJp hpre hm hB
  by_cases ht:t=[]
  ·subst ht
   have HE:=hid (show pre=bW s by rw [← HPRE.out,lI,List.append_nil])
   gi_wp2
   go_end0
   exact ⟨⟨_,rfl⟩,.inl ⟨pre,HE.out,HJP.out⟩⟩
  ·have hne:t.isEmpty=false:=by
    cases t with
    | nil=>exact absurd rfl ht
    | cons a r=>rfl
   have HC:=hid (eO ht);have HLT:=hid (tB (s:=t) (x:=[10]) ht (by simp))
   have HL:pre++[((Lib.cut t [10]).1,(Lib.cut t [10]).2.2)] <+: bW s:=by
    rw [← HPRE.out,HC.out];exact ⟨bW (cut t [10]).2.1,by rw [List.append_assoc];rfl⟩
   have HL:=hid HL;have HCUT:=hid (Tryz.strings_Cut ⟨t.toArray⟩ ⟨#[10]⟩ m wr (by rw [Lib.size_eq];show t.length<_;omega) HM.out)
   have HWR:=hid (fun w1 (Cl:Below wr.heap.size wr w1)=>HJ.out _ wr w1 none HJP.out (bYg Cl) (fun r e=>by cases e))
   gi_wp2_with (first
    | (refine ⟨trivial,?_⟩;gi_at_call 130;refine (callsIn_wide.2 HCUT.out).mono ?_;clear HCUT;rintro e w1 ⟨rfl,k,rfl⟩;obtain ⟨fn,tmps,assign,body,hy,hR⟩:=HY.out _ ((Lib.cut t [10]).1,(Lib.cut t [10]).2.2) (wr.drewN k) (HWR.out _ wN) HL.out)
    | (refine hR.mono ?_;clear hR;rintro e w3 Qa;(rcases Qa with ⟨rfl,Ot,Ku⟩ | ⟨rfl,hx⟩) <;> first | (have Lr:Boxed w3 b 9 (.string ⟨t.toArray⟩):=(Ku.same b hFb).trans HB.out;have Oi:=Lr.frozen;have hc3:=Lr.cell;have HJ3:=hid Ot;have HK3:=hid Ku;have HB3:=hid Lr;clear Ot Ku Lr) | skip))
   ·have Lg:=(HB3.out).set (.string ⟨(cut t [10]).2.1.toArray⟩)
    refine ⟨⟨pre++[((cut t [10]).1,(cut t [10]).2.2)],(cut t [10]).2.1,HJB.out _ _ _ HJ3.out,?_,?_,?_,Lg⟩,?_⟩
    ·rw [← HPRE.out,HC.out,List.append_assoc];rfl
    ·have:=HLT.out;omega
    ·rw [gV (Below.heap_setCell _ _ _ 0 (fun e=>Gj e.symm)) 0,gV (HK3.out.same 0 Jz) 0]
     exact HM.out
    ·have e1:aLa (w3.setCell ⟨b,0,none⟩ (.string ⟨(cut t [10]).2.1.toArray⟩)) b=(cut t [10]).2.1.length:=by
      unfold aLa;rw [Lg.cell];exact Lib.size_eq _
     have e2:aLa wr b=t.length:=by
      unfold aLa;rw [HB.out.cell];exact Lib.size_eq _
     rw [e1,e2];exact HLT.out
   ·refine bodyPost_ret (results_none rfl _ _ _) rfl ?_
    refine ⟨⟨_,rfl⟩,.inr ⟨pre++[((cut t [10]).1,(cut t [10]).2.2)],?_,hx⟩⟩;rw [← HPRE.out,HC.out];exact ⟨bW (cut t [10]).2.1,by rw [List.append_assoc];rfl⟩
end KV
end Go.Proofs
end
section
namespace Go.Proofs
open Go.RowKit
namespace KV
open Tryz
variable {P:Program} {n:Nat}
def aEr{α:Type}(F:Fence)(n:Nat)(P:Program)(g:Nat)(lb:Array Value)(encs:α→Array Value)(b:Nat)(Kp:World→World→Prop)(S Sp:List α→Prop)(N:List α→α→Prop)(w:World):Prop :=
 ∀ (l:Nat) (J Jx:List α→World→Prop) (W:World),Below w.heap.size w W→AbidesFrom W.heap.size J→AbidesFrom W.heap.size Jx→(∀ pre A v,J pre A→J pre (A.setCell ⟨b,0,none⟩ v)) →
  (∀ pre x W0,J pre W0→N pre x→YieldAt F (n-1) P l (encs x) W0 fun e W' =>
   (e = .returned (.bool true)∧J (pre++[x]) W'∧Kp W0 W')∨(e = .returned (.bool false)∧Jx (pre++[x]) W')) →
  J [] W →
  CallsIn F n P g (#[.func (.yield l) #[] #[]]++lb) W fun e W'=>(∃ v,e = .returned v)∧((∃ xs,S xs∧J xs W')∨(∃ pre,Sp pre∧Jx pre W'))

def bIa{α:Type}(B:Nat)(Kp:World→World→Prop)(I:List α→World→Prop)(Ix:Code→List α→World→Prop)(xs:List α)(V W:World):Exit→Act→World→Prop
 | .normal,_,W'=>KeepsFrom B W W'∧Kp V W'∧I xs W'
 | .ret,_,W'=>KeepsFrom B W W'∧Ix .ret xs W'
 | .exit id,_,W'=>KeepsFrom B W W'∧Ix (.exit id) xs W'
 | .goto t,_,W'=>KeepsFrom B W W'∧Ix (.goto t) xs W'
 | .panic _,_,_=>False
 | .outgrown,_,_=>False

theorem tD{α:Type}{F:Fence}{g:Operand}{ps:Array Tmp}{assign body:Code}{Q:Exit→Act→World→Prop}{a:Act}{w:World}
  (hro:F.round=none) (h1:1≤n) {gf:Nat} {lb:Array Value} (hg:a.eval g = .func (.func gf) #[] lb) (hFg:F.fn gf) (eg:∀ args w,(callFunc gf args).run P w = .ok (.enter gf args) w)
  {encs:α→Array Value} {b:Nat} {Kp:World→World→Prop} {S Sp:List α→Prop} {N:List α→α→Prop} {w0:World} (hseq:aEr F (n-1) P gf lb encs b Kp S Sp N w0)
  (hKt:∀ {A B C:World},Kp A B→Kp B C→Kp A C) (hKb:∀ (W:World) (l:Nat) (o o':Obj),w.heap.size≤l→W.heap[l]? = some o→o.isCells=false→o.isWalk=false→Kp W (W.putObj l o')) (Gj:Below w0.heap.size w0 w) (hps:∀ x,(encs x).size=ps.size)
  (I:List α→World→Prop) (Ix:Code→List α→World→Prop) (hI:OwnFrom w.heap.size I) (hbl:b<w.heap.size) (hIb:∀ pre A v,I pre A→I pre (A.setCell ⟨b,0,none⟩ v)) (hIx:∀ c,OwnFrom w.heap.size (Ix c)) (h0:I [] w) (Ax:List α→α→World→Act→World→Prop) (hAx:∀ pre x V a',OwnFrom w.heap.size (fun (_:Unit) W=>Ax pre x V a' W))
  (hassign:∀ (l:Nat) (pre:List α) (x:α) (V W:World) (K:Act→World→Prop),V=W→I pre V→(∀ a' W',KeepsFrom w.heap.size W W'→Ax pre x V a' W'→K a' W') →
   assign.wpIn (F.inRound l) (n-1-1) P (Exit.then K (fun _ _ _=>False)) { tmps:=(ps.zip (encs x)).foldl (fun t (p,v)=>t.setIfInBounds p v) a.tmps,defers:=[] } W)
  (hbody:∀ (l:Nat) (pre:List α) (x:α) (a':Act) (V W:World),w.heap.size≤l→(∃ r,W.heap[l]? = some (.loop r))→Ax pre x V a' W→N pre x→body.wpIn (F.inRound l) (n-1-1) P (bIa w.heap.size Kp I Ix (pre++[x]) V W) a' W)
  (hdone:∀ (D:Nat) (xs:List α) (W:World),w.heap.size≤D→S xs→I xs W→W.heap[D]? = some (.deferred (some []))→Q .normal { a with defers:={ target := .collected D,args := #[] }::a.defers } W)
  (hstop:∀ (D:Nat) (c:Code) (pre:List α) (W:World),w.heap.size≤D→Sp pre→Ix c pre W→W.heap[D]? = some (.deferred (some []))→c.wpIn F n P Q { a with defers:={ target := .collected D,args := #[] }::a.defers } W) :
  (Code.rangeFunc g ps assign body).wpIn F n P Q a w:=by
 refine wpIn_rangeFunc fun fn hfn => ?_
 rw [hro];obtain ⟨rc,hrc⟩:∃ rc:LoopState→Option Code→Loop,rc=fun st pe=>{ state:=st,pending:=pe,fn,tmps:=a.tmps,params:=ps,assign,body,defers:=w.heap.size }:=⟨_,rfl⟩
 obtain ⟨W1,J0⟩:∃ W1,(w.alloc (.deferred (some []))).alloc (.loop (rc .ready none))=W1:=⟨_,rfl⟩;have hsz:W1.heap.size=w.heap.size+2:=by rw [← J0];simp
 have Qb:W1.heap[w.heap.size+1]? = some (.loop (rc .ready none)):=by
  have:=World.alloc_heap_new (w.alloc (.deferred (some []))) (.loop (rc .ready none));rw [World.size_alloc] at this
  rw [← J0];exact this
 have Qc:W1.heap[w.heap.size]? = some (.deferred (some [])):=by
  rw [← J0];exact (Below.heap_alloc _ _ _ (by simp)).trans (World.alloc_heap_new w _)
 have Qd:I [] W1:=by rw [← J0];exact hI.alloc _ (hI.alloc _ h0)
 have Cl:Below w0.heap.size w0 W1:=by
  rw [← J0];exact Gj.trans ((((Below.refl _ w).alloc (Bb _) _).alloc (by simp) _).mono Gj.size)
 let Bk (st:LoopState) (pe:Option Code) (W:World):Prop:=W.heap[w.heap.size+1]? = some (.loop (rc st pe))∧W.heap[w.heap.size]? = some (.deferred (some []))
 have bkKeep:∀ {st:LoopState} {pe:Option Code} {A B:World} {row:Option Nat},Bk st pe A→A.grownBy B row→(∀ r,row=some r→∃ o:Obj,A.heap[r]? = some o∧o.isWalk=true)→Bk st pe B:=fun hs Iq hr =>
  ⟨(grownBy_keeps Iq hr hs.1 rfl).trans hs.1,(grownBy_keeps Iq hr hs.2 rfl).trans hs.2⟩
 have walkOwn:∀ {A:World} {row:Option Nat},(∀ r,row=some r→W1.heap.size≤r∧∃ o:Obj,A.heap[r]? = some o∧o.isWalk=true)→∀ r,row=some r→w.heap.size≤r∧∃ o:Obj,A.heap[r]? = some o∧o.isCells=false:=fun hr r e=>by
  obtain ⟨hB,o,ho,hw⟩:=hr r e;exact ⟨by omega,o,ho,Obj.not_cells_of_walk hw⟩
 refine ⟨w.heap.size+1,[{ target := .collected w.heap.size,args := #[] }],W1,{ target := .fn (.func gf) lb,args := #[.func (.yield (w.heap.size+1)) #[] #[]] },W1,gf,
  #[.func (.yield (w.heap.size+1)) #[] #[]]++lb,W1,?_,?_,?_,?_,fun _=>h1,?_⟩
 ·rw [← J0,hrc];exact run_enterLoop_outer _ _ _ _ _
 ·simp only [resolve,hg]
  simp [go_sem]
 ·intro f' Ou;simp [Target.leads] at Ou;subst Ou;exact hFg
 ·simp [invoke,go_sem,eg]
 ·refine (hseq (w.heap.size+1) (fun pre W=>I pre W∧Bk .ready none W) (fun pre W=>∃ c,Ix c pre W∧Bk .done (some c) W) W1 Cl
   (fun s A B row hs Iq hr=>⟨hI s A B row hs.1 Iq (walkOwn hr),bkKeep hs.2 Iq fun r e=>(hr r e).2⟩)
   (fun s A B row hs Iq hr=>by
    obtain ⟨c,hc,hb⟩:=hs;exact ⟨c,hIx c s A B row hc Iq (walkOwn hr),bkKeep hb Iq fun r e=>(hr r e).2⟩)
   (fun s A v hs=>⟨hIb s A v hs.1,(Below.heap_setCell _ _ _ _ (fun e=>by have:w.heap.size+1=b:=e;omega)).trans hs.2.1,(Below.heap_setCell _ _ _ _ (fun e=>by have:w.heap.size=b:=e;omega)).trans hs.2.2⟩)
   ?_ ⟨Qd,Qb,Qc⟩).mono ?_
  ·-- a round
   rintro pre x W ⟨hi,hbk⟩ hlen;have hbW:=hbk;have hlt:w.heap.size+1<W.heap.size:=(mD.1 hbW.1).1;have hy:=run_yield (P:=P) (args:=encs x) hbW.1 (by rw [hrc];exact hps x)
   rw [hrc] at hy
   refine ⟨fn,_,assign,body,hy,roundIn_of_wpIn hfn (hassign _ pre x W W _ rfl hi ?_)⟩;clear hy;intro a' Wa hkf hax;have hl:=hkf.same _ _ (by omega) hbW.1 rfl
   have hk:=hkf.same _ _ (Bb _) hbW.2 rfl;have hlta:w.heap.size+1<Wa.heap.size:=(mD.1 hl).1;refine ⟨_,run_beginRound hl (by rw [hrc]),?_⟩
   have Bp:(Wa.putObj (w.heap.size+1) (.loop { rc .ready none with state := .busy })).heap[w.heap.size+1]? = some (.loop { rc .ready none with state := .busy }):=World.putObj_heap_same hlta
   have Cy:(Wa.putObj (w.heap.size+1) (.loop { rc .ready none with state := .busy })).heap[w.heap.size]? = some (.deferred (some [])):=(World.putObj_heap_other (by omega)).trans hk
   refine wpIn_mono (hbody _ pre x a' W _ (by omega) ⟨_,Bp⟩ ((hAx pre x W a').putObj (s:=()) _ hax (by omega) hl rfl) hlen) ?_
   have fin:∀ (jump:Option Code) (W3:World),KeepsFrom w.heap.size (Wa.putObj (w.heap.size+1) (.loop { rc .ready none with state := .busy })) W3 →
     (Instr.endRound (w.heap.size+1) jump).run P W3 = .ok (.bool jump.isNone) (W3.putObj (w.heap.size+1) (.loop (rc (if jump.isNone then .ready else .done) jump))) ∧
     W3.heap[w.heap.size+1]? = some (.loop { rc .ready none with state := .busy })∧Bk (if jump.isNone then .ready else .done) jump (W3.putObj (w.heap.size+1) (.loop (rc (if jump.isNone then .ready else .done) jump))):=fun jump W3 Hw=>by
    have Ei:=Hw.same _ _ (by omega) Bp rfl
    have hrun:=run_endRound (P:=P) jump Ei;rw [hrc] at hrun
    refine ⟨by rw [hrc];exact hrun,Ei,?_⟩
    exact ⟨World.putObj_heap_same (mD.1 Ei).1,(World.putObj_heap_other (by omega)).trans (Hw.same _ _ (Bb _) Cy rfl)⟩
   rintro e a3 W3 hp;cases e with
   | normal =>
    obtain ⟨Hw,Nj,I9⟩:=hp;obtain ⟨hr,Ei,Ja⟩:=fin none W3 Hw;exact ⟨_,_,hr,.inl ⟨rfl,⟨hI.putObj _ I9 (by omega) Ei rfl,Ja⟩,hKt Nj (hKb _ _ _ _ (by omega) Ei rfl rfl)⟩⟩
   | ret =>
    obtain ⟨Hw,I9⟩:=hp;obtain ⟨hr,Ei,Ja⟩:=fin (some .ret) W3 Hw;exact ⟨_,_,hr,.inr ⟨rfl,.ret,(hIx _).putObj _ I9 (by omega) Ei rfl,Ja⟩⟩
   | exit id =>
    obtain ⟨Hw,I9⟩:=hp;obtain ⟨hr,Ei,Ja⟩:=fin (some (.exit id)) W3 Hw;exact ⟨_,_,hr,.inr ⟨rfl,.exit id,(hIx _).putObj _ I9 (by omega) Ei rfl,Ja⟩⟩
   | goto t =>
    obtain ⟨Hw,I9⟩:=hp;obtain ⟨hr,Ei,Ja⟩:=fin (some (.goto t)) W3 Hw;exact ⟨_,_,hr,.inr ⟨rfl,.goto t,(hIx _).putObj _ I9 (by omega) Ei rfl,Ja⟩⟩
   | panic ch=>exact hp.elim
   | outgrown=>exact hp.elim
  ·-- behind the iterator
   rintro e W2 ⟨⟨v,rfl⟩,(⟨xs,hS,hi,hb⟩ | ⟨pre,hSp,c,hi,hb⟩)⟩
   ·have:=run_endLoop (P:=P) hb.1 (by rw [hrc];simp)
    rw [hrc] at this
    exact ⟨none,_,this,hdone _ xs _ (Bb _) hS (hI.putObj _ hi (by omega) hb.1 rfl) ((World.putObj_heap_other (by omega)).trans hb.2)⟩
   ·have:=run_endLoop (P:=P) hb.1 (by rw [hrc];simp)
    rw [hrc] at this
    exact ⟨some c,_,this,hstop _ c pre _ (Bb _) hSp ((hIx c).putObj _ hi (by omega) hb.1 rfl) ((World.putObj_heap_other (by omega)).trans hb.2)⟩
end KV
end Go.Proofs
end
section
namespace Go.Proofs
open Go.RowKit
namespace KV
open Tryz
def aEq(x:List UInt8 × Bool):Array Value := #[.string ⟨x.1.toArray⟩,.bool x.2]
theorem aZu(s:List UInt8)(hs:s.length<100000)(m:Int)(F0:Nat→Prop)(n b:Nat)(hn:1≤n)(w:World)(Jz:F0 0)(hFb:F0 b)(Gj:b≠0)
  (hm:w.cell? ⟨0,0,none⟩=some (.int .i64 m)) (hbox:Boxed w b 9 (.string ⟨s.toArray⟩)) :
  aEr Fence.wide n Tp 175 #[.pointer (some ⟨b,0,none⟩)] aEq b (KpG F0) (fun ys=>ys=bW s) (fun pre=>pre <+: bW s) (fun pre x=>pre++[x] <+: bW s) w:=by
 intro l J Jx W hb hJ hJx hJb hY h0;have Lq:0<w.heap.size:=aSj hm;exact aLb s hs m F0 n l b hn J Jx (fun pre x W0 hj hlt=>hY pre x W0 hj hlt) W hJ Jz hFb Gj hJb
  (by rw [gV (hb.block 0 Lq) 0];exact hm) ((hb.block b hbox.lt).trans hbox) h0
end KV
end Go.Proofs
end
section
set_option maxRecDepth 1000000
namespace Go.Proofs
open Go.RowKit
namespace KV
open Tryz
theorem bHx{C:Cx}{w:World}(h:oU C w):C.F 0∧∃ m,w.cell? ⟨0,0,none⟩=some (.int .i64 m):=by
 refine ⟨(h (0,fun cs=>∃ m,cs[0]? = some (.int .i64 m)) (by simp [bSl])).1,?_⟩
 exact (aFe h).1
theorem bHy{P:Program}{C:Cx}{M:Mem}{w:World}{bx ty c:Nat}{v:Value}(hM:aX P C M w)(hbx:M[bx]? = some (some (.box ty [.p (.v v)])))(hc:C.ι bx=some c):Boxed w c ty v:=by
 obtain ⟨b,arr,q0,q1,q2,q3,_⟩:=hM.box _ _ _ hbx;rw [hc] at q0;cases q0
 obtain ⟨u,rfl⟩:∃ u,arr = #[u]:=by
  have:arr.size=1:=by simpa using q2
  exact ⟨arr[0],by ext i G3 Et;(· simpa using this);(· have:i=0:=(by omega);subst this;rfl)⟩
 have h:=q3 0 (by simp)
 simp at h
 cases h with
 | p _ _ h=>cases h;exact q1
def bY(P:Program)(kb kk:Nat)(body:Code)(st:St)(e:Ex)(m:Mem):Prop:=∃ (E:St) (g:Gh),aA P kb body st e E∧yK E.m=true∧∃ t',gh kk g E=some ⟨t',m⟩
theorem bY.cast{P:Program}{kb kk:Nat}{body:Code}{st:St}{e:Ex}{m m':Mem}(h:bY P kb kk body st e m)(he:m=m'):bY P kb kk body st e m':=he ▸ h
theorem aBd{β ε:Type}{k kb kk gi p1 p2 bx:Nat}{asg body cc:Code}{g0:Gh}(s:List UInt8)(hs:s.length<100000)(Fx:St)(S:β→St)(R:ε→St)(T:List AV)(f:β→List UInt8 × Bool→Except ε β)(a0:β)
  (s1:List AV→List UInt8 × Bool→List AV) (actOf:Act→List UInt8 × Bool→Act)
  (hcc:cc = .rangeFunc (.tmp gi) #[p1,p2] asg body) (P0:Fx.t=T) (hg:T[gi]? = some (.fn 175 [] [.ptr bx 0])) (hbx:Fx.m[bx]? = some (some (.box 9 [.p (aD s)])))
  (hkk:Fx.m.length≤kk) (h0:∃ t',gh kk g0 ⟨T,aZ Fx.m bx (some .dead)⟩=some ⟨t',(S a0).m⟩)
  (hST:∀ a,(S a).t=T) (hRT:∀ e,(R e).t=T)
  (hmp:∀ a,oM (aZ Fx.m bx (some .dead)) (S a).m) (hmpR:∀ e,oM (aZ Fx.m bx (some .dead)) (R e).m) (hpk:∀ a,xR (S a).m) (hpkR:∀ e,xR (R e).m) (M9:xR (aZ Fx.m bx (some .dead))) (hq:∀ a,nmM (S a).m=true) (hqR:∀ e,nmM (R e).m=true) (hlen:∀ a,(S a).m.length≤kb) (hnrf:nrf body=true)
  (P1:∀ (a:Act) (x:List UInt8 × Bool) (l:Nat) (K:Act→World→Prop) (W:World),K (actOf a x) W→asg.wpIn ((Fen none).inRound l) (3-1-1) Tp (Exit.then K (fun _ _ _=>False)) { tmps:=(#[p1,p2].zip (aEq x)).foldl (fun t (y:Nat × Value)=>t.setIfInBounds y.1 y.2) a.tmps,defers:=[] } W)
  (hA2:∀ (a:Act) (x:List UInt8 × Bool) (C:Cx) (M:Mem) (W:World),cT C M W T a.tmps→cT C M W (s1 T x) (actOf a x).tmps) (P2:∀ (a:Act) (x:List UInt8 × Bool),(actOf a x).defers=[])
  (hbody:∀ pre x a,pre++[x] <+: bW s→itB f a0 pre = .ok a →
   (∀ a',f a x = .ok a'→bY Tp kb kk body ⟨s1 T x,(S a).m⟩ .normal (S a').m)∧(∀ e,f a x = .error e→bY Tp kb kk body ⟨s1 T x,(S a).m⟩ .ret (R e).m)) :
  (∀ a,itB f a0 (bW s) = .ok a→aA Tp k cc Fx .normal (S a))∧(∀ e,itB f a0 (bW s) = .error e→aA Tp k cc Fx .ret (R e)):=by
 have hlk:(aZ Fx.m bx (some .dead)).length≤kk:=by
  rw [vA (Cf.1 hbx).1];exact hkk
 have main:∀ (Qf:Ex→St→Prop),(∀ a,itB f a0 (bW s) = .ok a→Qf .normal (S a))→(∀ e,itB f a0 (bW s) = .error e→Qf .ret (R e)) →
   ∀ (C0:Cx) (M0:Mem) (w0:World) (a:Act) (w:World),M0.length≤k→Sim Tp C0 M0 w0 Fx a w→∀ (ro:Option Nat),jZ ro cc→∀ (n:Nat),cc.wpIn (Fen ro) n Tp (fun e' a' w'=>∃ e Ai,Qf e Ai∧e'=e.toExit∧Sim Tp C0 M0 w0 Ai a' w') a w:=by
  intro Qf P3 P4 C0 M0 w0 a w hk B6 ro hro n;subst hcc;have Na:ro=none:=hro.resolve_right (by simp [nrf])
  subst Na;refine aPp (n:=3) ?_;obtain ⟨C,hSl,hM,hF,hD⟩:=B6;rw [P0] at hSl
  obtain ⟨b,hu,hb⟩:=aZs (hSl.at hg) hbx rfl
  have hB:=bHy hM hbx hb;obtain ⟨Jz,m,hm⟩:=bHx hM.lib;have hbF:¬ C.F b:=hM.nF _ _ _ hbx rfl hb;have Gj:b≠0:=fun e=>hbF (e ▸ Jz)
  have hbl:b<w.heap.size:=hM.lt _ _ _ hbx rfl hb;obtain ⟨Cd,hCd⟩:∃ Cd,Cd=C.close bx false:=⟨_,rfl⟩;obtain ⟨Md,hMd⟩:∃ Md,Md=aZ Fx.m bx (some .dead):=⟨_,rfl⟩;have hMM:aX Tp Cd Md w:=by rw [hCd,hMd];exact lA hM false hbx rfl
  have hFd:Fr C Fx.m w Cd Md w:=by rw [hCd,hMd];exact cV false hbx rfl
  have hA:aKy Cd Md w b:=by
   refine ⟨fun h => ?_,fun id o ho hl he => ?_,hbl,hMM.Fs,fun id o c ho hl he=>hMM.lt id o c ho hl he⟩
   ·rw [hCd] at h
    rcases h with h | ⟨h,_⟩
    ·exact hbF h
    ·cases h
   ·rw [hMd] at ho
    rw [hCd] at he
    by_cases e:id=bx
    ·subst e;rw [aY] at ho;cases ho;cases hl
    ·have Ct:=(aP Fx.m bx id _ o (fun e'=>e e'.symm)).1 ho
     exact e (hM.inj _ _ _ _ _ Ct hl hbx rfl he hb)
  have hdk:xR Md:=by rw [hMd];exact M9
  have back:∀ {M':Mem} {W:World} {C':Cx},Fr Cd Md (gK w b W) C' M' W→Fr C Fx.m w C' M' W:=fun fr=>by
   rw [hCd,hMd] at fr
   exact pC.back hbx rfl hb hbl fr
  rw [← hMd] at h0 hlk hmp hmpR
  have hbase:gK w b w=w:=by
   unfold gK;have e:w.heap.setIfInBounds b (w.heap.getD b (.cells #[] 0 (0,0)))=w.heap:=by
    apply Array.ext_getElem?;intro i
    by_cases e:b=i
    ·subst e
     have:w.heap[b]? = some w.heap[b]:=rR hbl;simp [hbl,Array.getD]
    ·simp [e]
   rw [e]
  have hseq:=aZu s hs m (fun c=>C.F c∨c=b) 2 b (by omega) w (.inl Jz) (.inr rfl) Gj hm hB
  have hFl:∀ c,(C.F c∨c=b)→c<w.heap.size:=fun c hc=>hc.elim (hM.Fs c) (fun e=>e ▸ hbl)
  have fin:∀ (D:Nat) (W:World) (st:St),st.t=T→oM Md st.m→nmM st.m=true→xR st.m→w.heap.size≤D→pC Tp Cd Md w b st.m W→W.heap[D]? = some (.deferred (some []))→Sim Tp C0 M0 w0 st { a with defers:={ target := .collected D,args := #[] }::a.defers } W:=by
   intro D W st hT Nb P5 Nc Ih hI hDm;obtain ⟨C1,h1,h2⟩:=hI;obtain ⟨F',Eh,frd,_,hSo⟩:=cCp Nb P5 (by rw [cF];exact hA.Fs) h1 h2
   have Nf:=back frd;rw [cF] at hSo
   refine ⟨_,by rw [hT];exact hSl.le (hM.le Nf),Eh,hF.trans Nf,?_⟩
   obtain ⟨⟨l,e1,e2,e3⟩,hR⟩:=hD.fr hM (fun i u1 u2 u3 L h=>by have:=Nc _ _ h;cases this) Nf
   obtain ⟨⟨l',B7,_,P6⟩,_⟩:=hD;have hll:l=l':=by
    have:=e1.symm.trans B7;exact (List.map_inj_right (fun x y h=>by simpa [mark] using h)).1 this
   refine ⟨⟨D::l,by rw [e1];rfl,List.nodup_cons.2 ⟨fun hin => ?_,e2⟩,fun D' P7 => ?_⟩,hR⟩
   ·rw [hll] at hin
    have:=(mD.1 (P6 D hin).1).1;omega
   ·rcases kD.1 P7 with rfl | hin
    ·refine ⟨hDm,iL hF.size Ih,fun hf => ?_⟩
     rcases hSo _ hf with h | h
     ·omega
     ·exact rM hDm rfl h
    ·exact e3 D' hin
  refine tD (F:=Fen none) (n:=3) rfl (by omega) (gf:=175) hu trivial (fun _ _=>rfl) hseq (fun h k=>h.trans k)
   (fun W l o o' hl h1 h2 h3=>⟨by simp,fun c hc=>(grownBy_putObj' W l o').block c (uL (hFl c hc) (iL hl (Nat.le_of_lt (mD.1 h1).1))) (fun e=>by cases e;have:=hFl _ hc;omega)⟩)
   (Below.refl _ _) (fun _=>rfl)
   (fun pre W=>∃ acc,itB f a0 pre = .ok acc∧pC Tp Cd Md w b (S acc).m W)
   (fun c pre W=>c = .ret∧∃ e,itB f a0 pre = .error e∧pC Tp Cd Md w b (R e).m W)
   (fun pre X Y row hs hg hr=>by
    obtain ⟨acc,h1,h2⟩:=hs;exact ⟨acc,h1,h2.own (hmp _) (hq _) hA hg hr⟩) hbl
   (fun pre A v hs=>by
    obtain ⟨acc,h1,h2⟩:=hs;exact ⟨acc,h1,h2.set hA v⟩)
   (fun c pre X Y row hs hg hr=>by
    obtain ⟨h0,e,h1,h2⟩:=hs;exact ⟨h0,e,h1,h2.own (hmpR _) (hqR _) hA hg hr⟩)
   ⟨a0,rfl,?start⟩
   (fun pre x V a' W=>a'=actOf a x∧(∃ acc,itB f a0 pre = .ok acc∧pC Tp Cd Md w b (S acc).m W)∧KpG (fun c=>C.F c∨c=b) V W∧w.heap.size≤W.heap.size)
   (fun pre x V a' s X Y row hs hg hr=>by
    obtain ⟨e1,⟨acc,h1,h2⟩,e3,e4⟩:=hs;refine ⟨e1,⟨acc,h1,h2.own (hmp _) (hq _) hA hg hr⟩,⟨iL e3.size hg.size,fun c hc => ?_⟩,iL e4 hg.size⟩
    refine (hg.block c (uL (hFl c hc) e4) (fun e => ?_)).trans (e3.same c hc)
    have:=(hr c e.symm).1;have:=hFl c hc;omega)
   ?assign ?body ?done ?stop
  case start =>
   obtain ⟨t',h0⟩:=h0;obtain ⟨C1,_,h1,h2,_⟩:=mV (C0:=Cd.with []) (M0:=Md) (w0:=gK w b w) hlk h0 (show Sim Tp (Cd.with []) Md (gK w b w) ⟨T,Md⟩ { a with defers:=[] } w from
    ⟨Cd,hSl.le (hM.le hFd),hMM,by rw [hbase];exact (Fr.refl _ _ _).based [],.nil rfl hdk⟩)
   exact ⟨C1,h1,h2.unbased⟩
  case assign =>
   intro l pre x V W K hV hI hK;subst hV;obtain ⟨acc,h1,h2⟩:=hI;have hsz:w.heap.size≤V.heap.size:=by
    obtain ⟨_,_,f2⟩:=h2;have:=f2.size;rw [cF] at this;exact this
   exact P1 a x l K _ (hK _ _ (KeepsFrom.refl _ _) ⟨rfl,⟨acc,h1,h2⟩,KpG.refl _ _,hsz⟩)
  case body =>
   rintro l pre x a' V W hl _ ⟨rfl,⟨acc,hacc,C',Eh,Ij⟩,hKV,hsz⟩ hN;have P8:=pC.nF hA Ij;have Ks:=pC.nL hA Ij;have hSW:cT C' (S acc).m W T a.tmps:=hSl.le (hM.le (back Ij));have P9:=hA2 a x _ _ _ hSW;have bd:=hbody pre x acc hN hacc;have hsim:Sim Tp (C'.with []) (S acc).m W ⟨s1 T x,(S acc).m⟩ (actOf a x) W:=⟨C',P9,Eh,(Fr.refl _ _ _).based [],by rw [P2];exact .nil rfl (hpk acc)⟩
   have keepO:∀ {M2:Mem} {W2:World} {C2:Cx},Fr C' (S acc).m W C2 M2 W2→KeepsFrom w.heap.size W W2∧KpG (fun c=>C.F c∨c=b) V W2:=fun f3=>by
    refine ⟨⟨f3.size,fun c o hc hb ho=>(f3.keep c (mD.1 hb).1 (fun id x hx hlv he => ?_)).trans hb⟩,
     hKV.trans ⟨f3.size,fun c hc=>f3.keep c (uL (hFl c hc) hsz) (fun id o ho hlv he => ?_)⟩⟩
    ·cases x with
     | row ty n cs =>
      rcases Eh.row _ _ _ _ hx with ⟨h1,_⟩ | ⟨b',arr,i,h1,h2,_⟩
      ·rw [he] at h1;cases h1
      ·rw [he] at h1;cases h1;exact rM hb ho (nN h2)
     | box ty cs =>
      obtain ⟨b',arr,h1,h2,_⟩:=Eh.box _ _ _ hx;rw [he] at h1;cases h1;exact rM hb ho (nN h2)
     | mp es cl =>
      have:=aSp (hmp acc) hA.ls Ij hx he;omega
     | pk u1 u2 u3 L=>exact absurd (hpk acc _ _ hx) (by simp [AO.isPk])
     | dead=>cases hlv
    ·rcases hc with hc | rfl
     ·exact Eh.nF _ _ _ ho hlv he ((back Ij).F1 _ hc)
     ·exact Ks _ _ ho hlv he
   have baseO:∀ {M2:Mem} {W2:World} {C2:Cx},Fr C' (S acc).m W C2 M2 W2→Fr Cd Md (gK w b W2) C2 M2 W2:=fun {M2 W2 C2} f3=>by
    have eb:(gK w b W)=(gK w b W2):=by
     have e:W2.heap[b]? = W.heap[b]? := f3.keep b (uL hbl hsz) (fun id o ho hlv he=>Ks _ _ ho hlv he)
     unfold gK;rw [Bz,Bz,e]
    rw [← eb];exact Ij.trans f3
   have hit:=aKz f pre a0 x;rw [hacc] at hit
   cases hfx:f acc x with
   | ok a2 =>
    have I7:itB f a0 (pre++[x]) = .ok a2:=by rw [hit];exact hfx
    obtain ⟨E,g1,hc,hpE,t',Ng⟩:=bd.1 a2 hfx;refine wpIn_mono (hc (C'.with []) (S acc).m W _ W (hlen _) hsim (some l) (.inr hnrf) 1) ?_
    rintro e a3 W2 ⟨rfl,C2,I8,F7,Er,_⟩;obtain ⟨k1,k2⟩:=keepO Er.unbased;obtain ⟨C4,_,Nh,Ni,_⟩:=mV hlk Ng (show Sim Tp (Cd.with []) Md (gK w b W2) E { a3 with defers:=[] } W2 from ⟨C2,I8,F7,(baseO Er.unbased).based [],.nil rfl (gQ hpE)⟩)
    exact ⟨k1,k2,a2,I7,C4,Nh,Ni.unbased⟩
   | error e2 =>
    have I7:itB f a0 (pre++[x]) = .error e2:=by rw [hit];exact hfx
    obtain ⟨E,g1,hc,hpE,t',Ng⟩:=bd.2 e2 hfx;refine wpIn_mono (hc (C'.with []) (S acc).m W _ W (hlen _) hsim (some l) (.inr hnrf) 1) ?_
    rintro e a3 W2 ⟨rfl,C2,I8,F7,Er,_⟩;obtain ⟨k1,k2⟩:=keepO Er.unbased;obtain ⟨C4,_,Nh,Ni,_⟩:=mV hlk Ng (show Sim Tp (Cd.with []) Md (gK w b W2) E { a3 with defers:=[] } W2 from ⟨C2,I8,F7,(baseO Er.unbased).based [],.nil rfl (gQ hpE)⟩)
    exact ⟨k1,rfl,e2,I7,C4,Nh,Ni.unbased⟩
  case done =>
   intro D xs W Ih hSx hI hDm;subst hSx;obtain ⟨acc,hacc,hI⟩:=hI;exact ⟨.normal,S acc,P3 acc hacc,rfl,fin D W _ (hST _) (hmp _) (hq _) (hpk _) Ih hI hDm⟩
  case stop =>
   rintro D c pre W Ih hSp ⟨rfl,e,hacc,hI⟩ hDm;refine wpIn_ret ?_;obtain ⟨r,hr⟩:=hSp;exact ⟨.ret,R e,P4 e (by rw [← hr];exact aEp f _ _ _ hacc),rfl,fin D W _ (hRT _) (hmpR _) (hqR _) (hpkR _) Ih hI hDm⟩
 refine ⟨fun a2 hok => ?_,fun e2 her => ?_⟩
 ·intro C0 M0 w0 a w hk B6 ro hro n
  refine wpIn_mono (main (fun e Ai=>e = .normal∧Ai=S a2) (fun a h=>by rw [hok] at h;cases h;exact ⟨rfl,rfl⟩) (fun e h=>by rw [hok] at h;cases h) C0 M0 w0 a w hk B6 ro hro n) ?_
  rintro e' a' w' ⟨e,Ai,⟨rfl,rfl⟩,h1,h2⟩;exact ⟨h1,h2⟩
 ·intro C0 M0 w0 a w hk B6 ro hro n
  refine wpIn_mono (main (fun e Ai=>e = .ret∧Ai=R e2) (fun a h=>by rw [her] at h;cases h) (fun e h=>by rw [her] at h;cases h;exact ⟨rfl,rfl⟩) C0 M0 w0 a w hk B6 ro hro n) ?_
  rintro e' a' w' ⟨e,Ai,⟨rfl,rfl⟩,h1,h2⟩;exact ⟨h1,h2⟩
end KV
end Go.Proofs
end
namespace Go.Proofs
namespace KV
open Tryz
section
theorem aZr{s:List UInt8}(h:(Lib.cut s [10]).2.2=true):(Lib.cut s [10]).1.length+1+(Lib.cut s [10]).2.1.length=s.length:=by
 unfold Lib.cut at h ⊢
 split
 ·rename_i h0
  have h1:=Lib.index_room s [10] h0;simp at h1
  dsimp only;rw [vV,xV,List.length_singleton];omega
 ·rename_i h0
  rw [if_neg h0] at h
  cases h
theorem bOh(s:List UInt8):(Lib.cut s [10]).1.length≤s.length:=by
 unfold Lib.cut
 split
 ·rw [vV];omega
 ·exact Bb _
def uZ:List (List UInt8 × Bool)→Nat
 | []=>0
 | x::r=>x.1.length+1+uZ r
theorem aEn:∀ (l:List (List UInt8 × Bool)) (x:List UInt8 × Bool),uZ (l++[x])=uZ l+(x.1.length+1)
 | [],x=>by simp [uZ]
 | y::l,x=>by simp only [List.cons_append,uZ,aEn l x];omega
theorem aEo:∀ (pre:List (List UInt8 × Bool)) (x:List UInt8 × Bool) (s:List UInt8),pre++[x] <+: bW s→(∀ y∈pre,y.2=true)→uZ pre+x.1.length≤s.length
 | [],x,s,h,_=>by
  by_cases hs:s=[]
  ·subst hs;simp [lI] at h
  ·rw [eO hs] at h
   have:=(List.cons_prefix_cons.1 h).1;subst this;have:=bOh s;simp only [uZ];omega
 | y::pre,x,s,h,hy=>by
  by_cases hs:s=[]
  ·subst hs;simp [lI] at h
  ·rw [eO hs] at h
   obtain ⟨h1,h2⟩:=List.cons_prefix_cons.1 (show y::(pre++[x]) <+: _::_ from h)
   subst h1;have h3:=aZr (s:=s) (hy ((Lib.cut s [10]).1,(Lib.cut s [10]).2.2) (iK ..));have h4:=aEo pre x _ h2 (fun z hz=>hy z (by simp [hz]))
   simp only [uZ];omega
theorem aSo:∀ l:List (List UInt8 × Bool),l.length≤uZ l
 | []=>Bb _
 | x::l=>by have:=aSo l;simp only [uZ,eY];omega
end
end KV
end Go.Proofs
