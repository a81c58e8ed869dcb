/- Parts of the proof of JSheetFirst: laws of walks, contracts of functions, plain models. No condition. -/
import Derived.Lib.SplitLaws
import Derived.RangeFuncLeaves
import Derived.OwnWalkIn
import Derived.TacticsInMore
import Derived.RangeFuncNested
import Derived.Shelf.Abstract
import Derived.LoopNIn
import Derived.LoopIn
import Derived.Lib.CountLaws
import Derived.Lib.IndexBytes
import Derived.Test.YtfekapdegmfgaaaGreatDoorPJSheetFirstD
set_option linter.unusedVariables false
set_option linter.unusedSimpArgs false
set_option linter.unnecessarySimpa false
set_option maxRecDepth 100000
namespace Go.Proofs
namespace KV
open Tryz
section
variable {r0:Bool}{a m hi lo r1:Int}{i i' Ap base:Nat}

noncomputable abbrev pC:Code:=sub (cd Tryz.f281) [1,0,1,0,0]
theorem bWg{x:UInt8}(h0:(x.toNat:Int)=120):FV Tp 231 [(.p (.v (.int .u8 (x.toNat:Int))))] base (pB true) []:=FV.fi func231 [bT,bT,bT] (A2 (dC h0) gn)
theorem bWh{x:UInt8}(h0:(x.toNat:Int)≠120)(Al:r0=((x.toNat:Int) == 111)):FV Tp 231 [(.p (.v (.int .u8 (x.toNat:Int))))] base (pB r0) []:=by
 subst Al;exact FV.fi func231 [bF,bF,bF] (A2 (bJ h0) gn)
theorem bWi{x:UInt8}(h0:(97:Int)≤(x.toNat:Int))(Al:r0=(decide ((x.toNat:Int)≤122))):FV Tp 232 [(.p (.v (.int .u8 (x.toNat:Int))))] base (pB r0) []:=by
 subst Al;exact FV.fi func232 [bT,bT,bT] (A2 (mR h0) gn)
theorem bWj{x:UInt8}(h0:(x.toNat:Int)<97):FV Tp 232 [(.p (.v (.int .u8 (x.toNat:Int))))] base (pB false) []:=FV.fi func232 [bF,bF,bF] (A2 (eL h0) gn)
def isr(x:UInt8):Bool:=decide ((x.toNat:Int)=120) || ((x.toNat:Int) == 111)
theorem bWk(x:UInt8){base:Nat}:FV Tp 231 [.p (.v (.int .u8 (x.toNat:Int)))] base (pB (isr x)) []:=by
 by_cases h:(x.toNat:Int)=120
 ·have e:isr x=true:=by simp only [isr,h,decide_true,Bool.true_or]
  rw [e];exact bWg h
 ·exact bWh h (by simp [isr,h])
def isl(x:UInt8):Bool:=decide ((97:Int)≤(x.toNat:Int)) && decide ((x.toNat:Int)≤122)
theorem bWl(x:UInt8){base:Nat}:FV Tp 232 [.p (.v (.int .u8 (x.toNat:Int)))] base (pB (isl x)) []:=by
 by_cases h:(97:Int)≤(x.toNat:Int)
 ·exact bWi h (by simp [isl,h])
 ·have e:isl x=false:=by simp only [isl,h,decide_false,Bool.false_and]
  rw [e];exact bWj (by omega)
theorem bNj{x:UInt8}(Al:r0=(!(isr x))):FMM Tp 239 [(.p (.v (.int .u8 (x.toNat:Int)))),(.ptr 0 0)] [some (.box 289 [(.fn 231 [] [])])] (pB r0) [some (.box 289 [(.fn 231 [] [])])]:=by
 subst Al;exact FMM.fi 1 gE func239 [.c (pB (isr x)) []] (gc (fk 1 (bWk x) rfl) gn)
theorem aSc(x:UInt8):FMM Tp 239 [.p (.v (.int .u8 (x.toNat:Int))),.ptr 0 0] [some (.box 289 [(.fn 231 [] [])])] (pB (!(isr x))) [some (.box 289 [(.fn 231 [] [])])]:=bNj rfl
def fT(l:List UInt8)(i:Nat):St:=⟨fr 19 [(0,(.p (.sl l.length (l.map dI)))),(1,(.fn 239 [] [(.ptr 0 0)])),(7,(pI (l.length:Int))),(8,(pI (i:Int)))],[some (.box 289 [(.fn 231 [] [])])]⟩
theorem bNk{l:List UInt8}(hl0:aF Tp 1 pC (fT l 0) (.exit 0) (fT l Ap)):FMM Tp 281 [(.p (.sl l.length (l.map dI))),(.fn 239 [] [(.ptr 0 0)])] [some (.box 289 [(.fn 231 [] [])])] (pI (-1)) [some (.box 289 [(.fn 231 [] [])])]:=FMM.fi 1 gE func281 [hl0.k 6 (gZ cf)] (gc hl0.code gn)
theorem bNl{l:List UInt8}(hl0:aF Tp 1 pC (fT l 0) .ret (cJ (fT l Ap) [(4,(pI (Ap:Int)))])):FMM Tp 281 [(.p (.sl l.length (l.map dI))),(.fn 239 [] [(.ptr 0 0)])] [some (.box 289 [(.fn 231 [] [])])] (pI (Ap:Int)) [some (.box 289 [(.fn 231 [] [])])]:=FMM.fi 1 gE func281 [hl0.k 6 (gZ cf)] (gc hl0.code gn)
section
variable{l:List UInt8}{Ab:UInt8}(h0:(i:Int)<(l.length:Int))(h1:l[i]? = some Ab)
include h0 h1
theorem aPb(h2:(isr Ab)=false):aA Tp 1 pC (fT l i) .ret (cJ (fT l i) [(4,(pI (i:Int)))]):=have k1:=mq [0] 1 (aSc Ab);aA.fi (gZ bt) [bT,.x (.v (.int .u8 (Ab.toNat:Int))),k1.o,bT] (gc (dB h2) (gc k1 (gc (atm dI h1) (gc (ixn dI h1) (g0 h0)))))
theorem aPc(h2:(isr Ab)=true)(h3:cp i)(Ai:i'=(i+1)):aA Tp 1 pC (fT l i) .normal (fT l i'):=by
 subst Ai;have k1:=mq [0] 1 (aSc Ab);exact aA.fi (gZ cf) [bT,.x (.v (.int .u8 (Ab.toNat:Int))),k1.o,bF] (gc h3 (gc (aW h2) (gc k1 (gc (atm dI h1) (gc (ixn dI h1) (g0 h0))))))
end
theorem aPd{l:List UInt8}(h0:(l.length:Int)≤(i:Int)):aA Tp 1 pC (fT l i) (.exit 0) (fT l i):=aA.fi (gZ cf) [bF] (gc (bH h0) gn)
theorem bNm(l:List UInt8)(hl:l.length≤100000):FMM Tp 281 [.p (.sl l.length (l.map dI)),(.fn 239 [] [(.ptr 0 0)])] [some (.box 289 [(.fn 231 [] [])])] (pI (nE (fun x => !(isr x)) l)) [some (.box 289 [(.fn 231 [] [])])]:=by
 rcases aF.find (P:=Tp) (k:=1) (b:=pC) (fun i=>fT l i) (fun i _=>cJ (fT l i) [(4,.p (aB (i:Int)))]) (fT l l.length) .ret (.exit 0) (by simp) (by simp) (fun x => !(isr x)) l
  (fun i x hx hp=>aPc (by have:=bC hx;omega) hx (by simpa using hp) (aR (by have:=bC hx;omega)) rfl)
  (fun i x hx hp=>aPb (by have:=bC hx;omega) hx (by simpa using hp))
  (aPd (l:=l) (i:=l.length) (by omega)) with ⟨i,x,h1,h2,h3,h4⟩ | ⟨h1,h2,h3⟩
 ·rw [jF h2];exact bNl h4
 ·rw [jG h1];exact bNk h3
theorem bNn{l:List UInt8}(h0:l.length≤100000)(Al:r0=(decide ((nE (fun x => !(isr x)) l) ≥ 0))):FMM Tp 238 [(.p (.sl l.length (l.map dI))),(.fn 239 [] [(.ptr 0 0)])] [some (.box 289 [(.fn 231 [] [])])] (pB r0) [some (.box 289 [(.fn 231 [] [])])]:=by
 subst Al;have k1:=mq [0] 1 (bNm l h0);exact FMM.fi 1 gE func238 [k1.o] (gc k1 gn)
theorem bNo(l:List UInt8)(hl:l.length≤100000):FMM Tp 238 [.p (.sl l.length (l.map dI)),(.fn 239 [] [(.ptr 0 0)])] [some (.box 289 [(.fn 231 [] [])])] (pB (l.any (fun x => !(isr x)))) [some (.box 289 [(.fn 231 [] [])])]:=bNn hl (lG _ _).symm
theorem bNp{l:List UInt8}(h0:l.length≤100000)(Al:r0=(!(l.any (fun x => !(isr x))))):FV Tp 196 [(.p (.sl l.length (l.map dI))),(.fn 231 [] [])] base (pB r0) []:=by
 subst Al;have k1:=mq [0] 1 (bNo l h0);exact FV.fi func196 [k1.o] (gc k1 gn)
theorem bNq(l:List UInt8)(hl:l.length≤100000){base:Nat}:FV Tp 196 [.p (.sl l.length (l.map dI)),(.fn 231 [] [])] base (pB (l.all isr)) []:=bNp hl (by rw [List.all_eq_not_any_not])
theorem bNr{x:UInt8}(Al:r0=(!(isl x))):FMM Tp 239 [(.p (.v (.int .u8 (x.toNat:Int)))),(.ptr 0 0)] [some (.box 289 [(.fn 232 [] [])])] (pB r0) [some (.box 289 [(.fn 232 [] [])])]:=by
 subst Al;exact FMM.fi 1 gE func239 [.c (pB (isl x)) []] (gc (fk 1 (bWl x) rfl) gn)
theorem aSd(x:UInt8):FMM Tp 239 [.p (.v (.int .u8 (x.toNat:Int))),.ptr 0 0] [some (.box 289 [(.fn 232 [] [])])] (pB (!(isl x))) [some (.box 289 [(.fn 232 [] [])])]:=bNr rfl
def fU(l:List UInt8)(i:Nat):St:=⟨fr 19 [(0,(.p (.sl l.length (l.map dI)))),(1,(.fn 239 [] [(.ptr 0 0)])),(7,(pI (l.length:Int))),(8,(pI (i:Int)))],[some (.box 289 [(.fn 232 [] [])])]⟩
theorem bNs{l:List UInt8}(hl0:aF Tp 1 pC (fU l 0) (.exit 0) (fU l Ap)):FMM Tp 281 [(.p (.sl l.length (l.map dI))),(.fn 239 [] [(.ptr 0 0)])] [some (.box 289 [(.fn 232 [] [])])] (pI (-1)) [some (.box 289 [(.fn 232 [] [])])]:=FMM.fi 1 gE func281 [hl0.k 6 (gZ cf)] (gc hl0.code gn)
theorem bNt{l:List UInt8}(hl0:aF Tp 1 pC (fU l 0) .ret (cJ (fU l Ap) [(4,(pI (Ap:Int)))])):FMM Tp 281 [(.p (.sl l.length (l.map dI))),(.fn 239 [] [(.ptr 0 0)])] [some (.box 289 [(.fn 232 [] [])])] (pI (Ap:Int)) [some (.box 289 [(.fn 232 [] [])])]:=FMM.fi 1 gE func281 [hl0.k 6 (gZ cf)] (gc hl0.code gn)
section
variable{l:List UInt8}{Ab:UInt8}(h0:(i:Int)<(l.length:Int))(h1:l[i]? = some Ab)
include h0 h1
theorem aPe(h2:(isl Ab)=false):aA Tp 1 pC (fU l i) .ret (cJ (fU l i) [(4,(pI (i:Int)))]):=have k1:=mq [0] 1 (aSd Ab);aA.fi (gZ bt) [bT,.x (.v (.int .u8 (Ab.toNat:Int))),k1.o,bT] (gc (dB h2) (gc k1 (gc (atm dI h1) (gc (ixn dI h1) (g0 h0)))))
theorem aPf(h2:(isl Ab)=true)(h3:cp i)(Ai:i'=(i+1)):aA Tp 1 pC (fU l i) .normal (fU l i'):=by
 subst Ai;have k1:=mq [0] 1 (aSd Ab);exact aA.fi (gZ cf) [bT,.x (.v (.int .u8 (Ab.toNat:Int))),k1.o,bF] (gc h3 (gc (aW h2) (gc k1 (gc (atm dI h1) (gc (ixn dI h1) (g0 h0))))))
end
theorem aPg{l:List UInt8}(h0:(l.length:Int)≤(i:Int)):aA Tp 1 pC (fU l i) (.exit 0) (fU l i):=aA.fi (gZ cf) [bF] (gc (bH h0) gn)
theorem bNu(l:List UInt8)(hl:l.length≤100000):FMM Tp 281 [.p (.sl l.length (l.map dI)),(.fn 239 [] [(.ptr 0 0)])] [some (.box 289 [(.fn 232 [] [])])] (pI (nE (fun x => !(isl x)) l)) [some (.box 289 [(.fn 232 [] [])])]:=by
 rcases aF.find (P:=Tp) (k:=1) (b:=pC) (fun i=>fU l i) (fun i _=>cJ (fU l i) [(4,.p (aB (i:Int)))]) (fU l l.length) .ret (.exit 0) (by simp) (by simp) (fun x => !(isl x)) l
  (fun i x hx hp=>aPf (by have:=bC hx;omega) hx (by simpa using hp) (aR (by have:=bC hx;omega)) rfl)
  (fun i x hx hp=>aPe (by have:=bC hx;omega) hx (by simpa using hp))
  (aPg (l:=l) (i:=l.length) (by omega)) with ⟨i,x,h1,h2,h3,h4⟩ | ⟨h1,h2,h3⟩
 ·rw [jF h2];exact bNt h4
 ·rw [jG h1];exact bNs h3
theorem bNv{l:List UInt8}(h0:l.length≤100000)(Al:r0=(decide ((nE (fun x => !(isl x)) l) ≥ 0))):FMM Tp 238 [(.p (.sl l.length (l.map dI))),(.fn 239 [] [(.ptr 0 0)])] [some (.box 289 [(.fn 232 [] [])])] (pB r0) [some (.box 289 [(.fn 232 [] [])])]:=by
 subst Al;have k1:=mq [0] 1 (bNu l h0);exact FMM.fi 1 gE func238 [k1.o] (gc k1 gn)
theorem bNw(l:List UInt8)(hl:l.length≤100000):FMM Tp 238 [.p (.sl l.length (l.map dI)),(.fn 239 [] [(.ptr 0 0)])] [some (.box 289 [(.fn 232 [] [])])] (pB (l.any (fun x => !(isl x)))) [some (.box 289 [(.fn 232 [] [])])]:=bNv hl (lG _ _).symm
theorem bNx{l:List UInt8}(h0:l.length≤100000)(Al:r0=(!(l.any (fun x => !(isl x))))):FV Tp 196 [(.p (.sl l.length (l.map dI))),(.fn 232 [] [])] base (pB r0) []:=by
 subst Al;have k1:=mq [0] 1 (bNw l h0);exact FV.fi func196 [k1.o] (gc k1 gn)
theorem bNy(l:List UInt8)(hl:l.length≤100000){base:Nat}:FV Tp 196 [.p (.sl l.length (l.map dI)),(.fn 232 [] [])] base (pB (l.all isl)) []:=bNx hl (by rw [List.all_eq_not_any_not])
theorem bWm{s:List UInt8}(h0:(within (s.length:Int) lo hi)=true)(h1:s.length≤1000000000)(h2:s.length≤100000)(Al:r0=(s.all isr)):FV Tp 230 [(.p (aD s)),(pI lo),(pI hi),(.fn 231 [] [])] base (pB r0) []:=by
 subst Al;have k1:=fk 0 (mI (s.length:Int) lo hi) rfl;exact FV.fi func230 [k1.o,bT,bT,bT,bT,.c (pB (s.all isr)) [],bT] (gc h0 (gc (fk 0 (bNq s h2) rfl) (A4 h0 (gc h1 (A4 h0 (gc k1 gn))))))
theorem bWn{s:List UInt8}(h0:(within (s.length:Int) lo hi)=false):FV Tp 230 [(.p (aD s)),(pI lo),(pI hi),(.fn 231 [] [])] base (pB false) []:=have k1:=fk 0 (mI (s.length:Int) lo hi) rfl;FV.fi func230 ([k1.o]++rF 5) (Cg h0 (gc k1 gn))
theorem bWo{s:List UInt8}(h0:(within (s.length:Int) lo hi)=true)(h1:s.length≤1000000000)(h2:s.length≤100000)(Al:r0=(s.all isl)):FV Tp 230 [(.p (aD s)),(pI lo),(pI hi),(.fn 232 [] [])] base (pB r0) []:=by
 subst Al;have k1:=fk 0 (mI (s.length:Int) lo hi) rfl;exact FV.fi func230 [k1.o,bT,bT,bT,bT,.c (pB (s.all isl)) [],bT] (gc h0 (gc (fk 0 (bNy s h2) rfl) (A4 h0 (gc h1 (A4 h0 (gc k1 gn))))))
theorem bWp{s:List UInt8}(h0:(within (s.length:Int) lo hi)=false):FV Tp 230 [(.p (aD s)),(pI lo),(pI hi),(.fn 232 [] [])] base (pB false) []:=have k1:=fk 0 (mI (s.length:Int) lo hi) rfl;FV.fi func230 ([k1.o]++rF 5) (Cg h0 (gc k1 gn))
def nI(s:List UInt8):Bool:=within (s.length:Int) 5 8 && s.all isr
def nJ(s:List UInt8):Bool:=within (s.length:Int) 1 12 && s.all isl
theorem bWq(s:List UInt8)(lo hi:Int)(h:hi≤100000){base:Nat}:FV Tp 230 [.p (aD s),.p (aB lo),.p (aB hi),.fn 231 [] []] base (pB (within (s.length:Int) lo hi && s.all isr)) []:=by
 by_cases q:within (s.length:Int) lo hi=true
 ·have:=cO.1 q
  exact bWm q (by omega) (by omega) (by rw [q,aVy])
 ·have e:within (s.length:Int) lo hi=false:=by simpa using q
  rw [e,Bool.false_and];exact bWn e
theorem bWr(s:List UInt8)(lo hi:Int)(h:hi≤100000){base:Nat}:FV Tp 230 [.p (aD s),.p (aB lo),.p (aB hi),.fn 232 [] []] base (pB (within (s.length:Int) lo hi && s.all isl)) []:=by
 by_cases q:within (s.length:Int) lo hi=true
 ·have:=cO.1 q
  exact bWo q (by omega) (by omega) (by rw [q,aVy])
 ·have e:within (s.length:Int) lo hi=false:=by simpa using q
  rw [e,Bool.false_and];exact bWp e
theorem bWs{s:List UInt8}(h0:(8:Int)≤100000)(Al:r0=(within (s.length:Int) 5 8 && s.all isr)):FV Tp 191 [(.p (aD s))] base (pB r0) []:=by
 subst Al;have k1:=fk 0 (bWq s 5 8 h0) rfl;exact FV.fi func191 [k1.o] (gc k1 gn)
theorem bWt{s:List UInt8}(h0:(12:Int)≤100000)(Al:r0=(within (s.length:Int) 1 12 && s.all isl)):FV Tp 192 [(.p (aD s))] base (pB r0) []:=by
 subst Al;have k1:=fk 0 (bWr s 1 12 h0) rfl;exact FV.fi func192 [k1.o] (gc k1 gn)
theorem aGv(s:List UInt8){base:Nat}:FV Tp 191 [.p (aD s)] base (pB (nI s)) []:=bWs (by omega) rfl
theorem aGw(s:List UInt8){base:Nat}:FV Tp 192 [.p (aD s)] base (pB (nJ s)) []:=bWt (by omega) rfl
theorem bWu{s:List UInt8}{r0:Int}(h0:0≤(999999:Int)∧(999999:Int)≤1000000000)(Al:r0=((bN s 999999).1))(Dd:r1=((bN s 999999).2)):FV Tp 188 [(.p (aD s))] base (.tup [(pI r0),(pI r1)]) []:=by
 subst Al Dd;have k1:=fk 0 (gG s 999999 h0) rfl;exact FV.fi func188 [k1.o] (gc k1 gn)
theorem bWv(s:List UInt8){base:Nat}:FV Tp 188 [.p (aD s)] base (.tup [.p (aB (bN s 999999).1),.p (aB (bN s 999999).2)]) []:=bWu (by omega) rfl rfl
theorem bWw{n:Int}:FV Tp 189 [(pI n)] base (.p (aD ((ptM n).1))) []:=have k1:=fk 0 (cCw n) rfl;FV.fi func189 [k1.o] (gc k1 gn)
theorem bWx(n:Int){base:Nat}:FV Tp 189 [.p (aB n)] base (.p (aD (ptM n).1)) []:=bWw
theorem bWy{s:List UInt8}{r0:Int}(Al:r0=((bN s 999999).1))(Dd:r1=((bN s 999999).2)):FV Tp 224 [(.p (aD s)),(.rp [(PV.fn 188 [] [])] 0)] base (.tup [(.p (.agg [(aB r0),(aD ([]:List UInt8))])),(pI r1)]) []:=by
 subst Al Dd;have k1:=fk 1 (bWv s) rfl;exact FV.fi func224 [.x (PV.fn 188 [] []),k1.o] (gc k1 (gr (PV.fn 188 [] []) gn))
theorem bWz{s:List UInt8}{r0:Int}(h0:s.length≤90000)(Al:r0=((paM s).1))(Dd:r1=((paM s).2)):FV Tp 224 [(.p (aD s)),(.rp [(PV.fn 39 [] [])] 0)] base (.tup [(.p (.agg [(aB r0),(aD ([]:List UInt8))])),(pI r1)]) []:=by
 subst Al Dd;have k1:=fk 1 (bNz s h0) rfl;exact FV.fi func224 [.x (PV.fn 39 [] []),k1.o] (gc k1 (gr (PV.fn 39 [] []) gn))
theorem bXa{z:List UInt8}(h0:inR a):FV Tp 225 [(.p (.agg [(aB a),(aD z)])),(.rp [(PV.fn 120 [] [])] 0)] base (.p (aD (Lib.itoa a))) []:=have k1:=fk 1 (dH a h0) rfl;FV.fi func225 [.x (PV.fn 120 [] []),k1.o] (gc k1 (gr (PV.fn 120 [] []) gn))
theorem bXb{z:List UInt8}:FV Tp 225 [(.p (.agg [(aB a),(aD z)])),(.rp [(PV.fn 189 [] [])] 0)] base (.p (aD ((ptM a).1))) []:=have k1:=fk 1 (bWx a) rfl;FV.fi func225 [.x (PV.fn 189 [] []),k1.o] (gc k1 (gr (PV.fn 189 [] []) gn))
theorem bHk{z:List UInt8}(h0:(within a 0 m)=false):FV Tp 226 [(.p (.agg [(aB a),(aD z)])),(.rp [(aB m)] 0)] base (pI 3) []:=have k1:=fk 1 (mI a 0 m) rfl;FV.fi func226 [.x (aB m),k1.o,bT] (gc (dB h0) (gc k1 (gr (aB m) gn)))
theorem bHl{z:List UInt8}(h0:(within a 0 m)=true)(h1:z≠([]:List UInt8)):FV Tp 226 [(.p (.agg [(aB a),(aD z)])),(.rp [(aB m)] 0)] base (pI 11) []:=have k1:=fk 1 (mI a 0 m) rfl;FV.fi func226 [.x (aB m),k1.o,bF,bT] (gc (dB (decide_eq_false h1)) (gc (aW h0) (gc k1 (gr (aB m) gn))))
theorem bHm{z:List UInt8}(h0:(within a 0 m)=true)(h1:z=([]:List UInt8)):FV Tp 226 [(.p (.agg [(aB a),(aD z)])),(.rp [(aB m)] 0)] base (pI 0) []:=have k1:=fk 1 (mI a 0 m) rfl;FV.fi func226 [.x (aB m),k1.o,bF,bF] (gc (aW (decide_eq_true h1)) (gc (aW h0) (gc k1 (gr (aB m) gn))))
theorem bXc{s:List UInt8}(h0:(nI s)=false):FV Tp 227 [(.p (aD s)),(.rp [(PV.fn 191 [] [])] 0)] base (.tup [(.p (.agg [(aB 0),(aD ([]:List UInt8))])),(pI 11)]) []:=FV.fi func227 [.x (PV.fn 191 [] []),.c (pB (nI s)) [],bT] (gc (dB h0) (gc (fk 1 (aGv s) rfl) (gr (PV.fn 191 [] []) gn)))
theorem bXd{s:List UInt8}(h0:(nI s)=true):FV Tp 227 [(.p (aD s)),(.rp [(PV.fn 191 [] [])] 0)] base (.tup [(.p (.agg [(aB 0),(aD s)])),(pI 0)]) []:=FV.fi func227 [.x (PV.fn 191 [] []),.c (pB (nI s)) [],bF] (gc (aW h0) (gc (fk 1 (aGv s) rfl) (gr (PV.fn 191 [] []) gn)))
theorem bXe{s:List UInt8}(h0:(nJ s)=false):FV Tp 227 [(.p (aD s)),(.rp [(PV.fn 192 [] [])] 0)] base (.tup [(.p (.agg [(aB 0),(aD ([]:List UInt8))])),(pI 11)]) []:=FV.fi func227 [.x (PV.fn 192 [] []),.c (pB (nJ s)) [],bT] (gc (dB h0) (gc (fk 1 (aGw s) rfl) (gr (PV.fn 192 [] []) gn)))
theorem bXf{s:List UInt8}(h0:(nJ s)=true):FV Tp 227 [(.p (aD s)),(.rp [(PV.fn 192 [] [])] 0)] base (.tup [(.p (.agg [(aB 0),(aD s)])),(pI 0)]) []:=FV.fi func227 [.x (PV.fn 192 [] []),.c (pB (nJ s)) [],bF] (gc (aW h0) (gc (fk 1 (aGw s) rfl) (gr (PV.fn 192 [] []) gn)))
theorem bXg{z:List UInt8}:FV Tp 228 [(.p (.agg [(aB a),(aD z)]))] base (.p (aD z)) []:=FV.fi func228 [] gn
theorem bXh{z:List UInt8}(h0:a≠0):FV Tp 229 [(.p (.agg [(aB a),(aD z)])),(.rp [(PV.fn 191 [] [])] 0)] base (pI 11) []:=FV.fi func229 (rT 6) (G3 (eY h0) gn)
theorem bXi{z:List UInt8}(h0:a=0)(h1:(nI z)=false):FV Tp 229 [(.p (.agg [(aB a),(aD z)])),(.rp [(PV.fn 191 [] [])] 0)] base (pI 11) []:=FV.fi func229 [bF,.x (PV.fn 191 [] []),bF,bF,bF,.c (pB (nI z)) [],bF,bF,bT] (gc (dB h1) (A4 (bL h0) (gc (fk 1 (aGv z) rfl) (A2 (bL h0) (gr (PV.fn 191 [] []) (gc (bL h0) gn))))))
theorem bXj{z:List UInt8}(h0:a=0)(h1:(nI z)=true):FV Tp 229 [(.p (.agg [(aB a),(aD z)])),(.rp [(PV.fn 191 [] [])] 0)] base (pI 0) []:=FV.fi func229 [bF,.x (PV.fn 191 [] []),bF,bF,bF,.c (pB (nI z)) [],bF,bF,bF] (gc (aW h1) (A4 (bL h0) (gc (fk 1 (aGv z) rfl) (A2 (bL h0) (gr (PV.fn 191 [] []) (gc (bL h0) gn))))))
theorem bXk{z:List UInt8}(h0:a≠0):FV Tp 229 [(.p (.agg [(aB a),(aD z)])),(.rp [(PV.fn 192 [] [])] 0)] base (pI 11) []:=FV.fi func229 (rT 6) (G3 (eY h0) gn)
theorem bXl{z:List UInt8}(h0:a=0)(h1:(nJ z)=false):FV Tp 229 [(.p (.agg [(aB a),(aD z)])),(.rp [(PV.fn 192 [] [])] 0)] base (pI 11) []:=FV.fi func229 [bF,.x (PV.fn 192 [] []),bF,bF,bF,.c (pB (nJ z)) [],bF,bF,bT] (gc (dB h1) (A4 (bL h0) (gc (fk 1 (aGw z) rfl) (A2 (bL h0) (gr (PV.fn 192 [] []) (gc (bL h0) gn))))))
theorem bXm{z:List UInt8}(h0:a=0)(h1:(nJ z)=true):FV Tp 229 [(.p (.agg [(aB a),(aD z)])),(.rp [(PV.fn 192 [] [])] 0)] base (pI 0) []:=FV.fi func229 [bF,.x (PV.fn 192 [] []),bF,bF,bF,.c (pB (nJ z)) [],bF,bF,bF] (gc (aW h1) (A4 (bL h0) (gc (fk 1 (aGw z) rfl) (A2 (bL h0) (gr (PV.fn 192 [] []) (gc (bL h0) gn))))))
abbrev Cel:=Int × List UInt8
def cE(c:Cel):List PV:=[aB c.1,aD c.2]
def rdM(j:Int)(s:List UInt8):Cel × Int:=if j=0 then (((bN s 999999).1,[]),(bN s 999999).2) else if j=1 then (((paM s).1,[]),(paM s).2) else if (if j=2 then nI s else nJ s)=true then ((0,s),0) else ((0,[]),11)
def wrM(j:Int)(c:Cel):List UInt8:=if j=0 then Lib.itoa c.1 else if j=1 then (ptM c.1).1 else c.2
def ckM(j:Int)(c:Cel):Int:=if j=0∨j=1 then (if within c.1 0 (if j=0 then 999999 else 360000)=false then 3 else if c.2≠[] then 11 else 0) else if c.1≠0∨(if j=2 then nI c.2 else nJ c.2)=false then 11 else 0
theorem bHn(s:List UInt8){base:Nat}:FV Tp 224 [.p (aD s),.rp [PV.fn 188 [] []] 0] base (.tup [.p (.agg [aB (rdM 0 s).1.1,aD (rdM 0 s).1.2]),.p (aB (rdM 0 s).2)]) []:=bWy rfl rfl
theorem bHo(s:List UInt8)(h:s.length≤90000){base:Nat}:FV Tp 224 [.p (aD s),.rp [PV.fn 39 [] []] 0] base (.tup [.p (.agg [aB (rdM 1 s).1.1,aD (rdM 1 s).1.2]),.p (aB (rdM 1 s).2)]) []:=bWz h rfl rfl
theorem bHp(s:List UInt8){base:Nat}:FV Tp 227 [.p (aD s),.rp [PV.fn 191 [] []] 0] base (.tup [.p (.agg [aB (rdM 2 s).1.1,aD (rdM 2 s).1.2]),.p (aB (rdM 2 s).2)]) []:=by
 by_cases h:nI s=true
 ·have e:rdM 2 s=((0,s),0):=by simp [rdM,h]
  rw [e];exact bXd h
 ·have e:rdM 2 s=((0,[]),11):=by simp [rdM,h]
  rw [e];exact bXc (by simpa using h)
theorem bHq(s:List UInt8){base:Nat}:FV Tp 227 [.p (aD s),.rp [PV.fn 192 [] []] 0] base (.tup [.p (.agg [aB (rdM 3 s).1.1,aD (rdM 3 s).1.2]),.p (aB (rdM 3 s).2)]) []:=by
 by_cases h:nJ s=true
 ·have e:rdM 3 s=((0,s),0):=by simp [rdM,h]
  rw [e];exact bXf h
 ·have e:rdM 3 s=((0,[]),11):=by simp [rdM,h]
  rw [e];exact bXe (by simpa using h)
theorem bXn(a:Int)(z:List UInt8)(h:inR a){base:Nat}:FV Tp 225 [.p (.agg [aB a,aD z]),.rp [PV.fn 120 [] []] 0] base (.p (aD (wrM 0 (a,z)))) []:=bXa h
theorem bXo(a:Int)(z:List UInt8){base:Nat}:FV Tp 225 [.p (.agg [aB a,aD z]),.rp [PV.fn 189 [] []] 0] base (.p (aD (wrM 1 (a,z)))) []:=bXb
theorem bHr(a:Int)(z:List UInt8){base:Nat}:FV Tp 228 [.p (.agg [aB a,aD z])] base (.p (aD (wrM 2 (a,z)))) []:=bXg
theorem bHs(a:Int)(z:List UInt8){base:Nat}:FV Tp 226 [.p (.agg [aB a,aD z]),.rp [aB 999999] 0] base (pI (ckM 0 (a,z))) []:=by
 by_cases h:within a 0 999999=true
 ·by_cases h2:z=[]
  ·have e:ckM 0 (a,z)=0:=by simp [ckM,h,h2]
   rw [e];exact bHm h h2
  ·have e:ckM 0 (a,z)=11:=by simp [ckM,h,h2]
   rw [e];exact bHl h h2
 ·have e:ckM 0 (a,z)=3:=by simp [ckM,h]
  rw [e];exact bHk (by simpa using h)
theorem bHt(a:Int)(z:List UInt8){base:Nat}:FV Tp 226 [.p (.agg [aB a,aD z]),.rp [aB 360000] 0] base (pI (ckM 1 (a,z))) []:=by
 by_cases h:within a 0 360000=true
 ·by_cases h2:z=[]
  ·have e:ckM 1 (a,z)=0:=by simp [ckM,h,h2]
   rw [e];exact bHm h h2
  ·have e:ckM 1 (a,z)=11:=by simp [ckM,h,h2]
   rw [e];exact bHl h h2
 ·have e:ckM 1 (a,z)=3:=by simp [ckM,h]
  rw [e];exact bHk (by simpa using h)
theorem bHu(a:Int)(z:List UInt8){base:Nat}:FV Tp 229 [.p (.agg [aB a,aD z]),.rp [PV.fn 191 [] []] 0] base (pI (ckM 2 (a,z))) []:=by
 by_cases h:a=0
 ·by_cases h2:nI z=true
  ·have e:ckM 2 (a,z)=0:=by simp [ckM,h,h2]
   rw [e];exact bXj h h2
  ·have e:ckM 2 (a,z)=11:=by simp [ckM,h2]
   rw [e];exact bXi h (by simpa using h2)
 ·have e:ckM 2 (a,z)=11:=by simp [ckM,h]
  rw [e];exact bXh h
theorem bHv(a:Int)(z:List UInt8){base:Nat}:FV Tp 229 [.p (.agg [aB a,aD z]),.rp [PV.fn 192 [] []] 0] base (pI (ckM 3 (a,z))) []:=by
 by_cases h:a=0
 ·by_cases h2:nJ z=true
  ·have e:ckM 3 (a,z)=0:=by simp [ckM,h,h2]
   rw [e];exact bXm h h2
  ·have e:ckM 3 (a,z)=11:=by simp [ckM,h2]
   rw [e];exact bXl h (by simpa using h2)
 ·have e:ckM 3 (a,z)=11:=by simp [ckM,h]
  rw [e];exact bXk h
end
section
section
variable {α:Type} {E:α→List PV} {k:Nat}
theorem rM(hE:∀ a,(E a).length=k)(l:List α):((l.map E).flatten).length=l.length*k:=by
 induction l with
 | nil=>simp
 | cons a l ih=>rw [gS,vW,Bv,hE,ih,Cb,Nat.succ_mul];omega
theorem wG(hE:∀ a,(E a).length=k){l:List α}{i:Nat}{e:α}(h:l[i]? = some e):∃ a b,(l.map E).flatten=a++(E e++b)∧a.length=i*k:=by
 obtain ⟨hi,rfl⟩:=Ci.1 h;refine ⟨((l.take i).map E).flatten,((l.drop (i+1)).map E).flatten,?_,?_⟩
 ·have:l=l.take i++(l[i]::l.drop (i+1)):=by rw [← bMc hi,aVt]
  have e2:=congrArg (fun l=>(l.map E).flatten) this
  simp only [rW,gS,bMd,vW] at e2
  exact e2
 ·rw [rM hE,pF];congr 1;omega
theorem aL{l:List α}{i f:Nat}(hE:∀ a,(E a).length=k){e:α}{x:PV}(h:l[i]? = some e)(hx:(E e)[f]? = some x):((l.map E).flatten)[i*k+f]? = some x:=by
 obtain ⟨a,b,e1,e2⟩:=wG hE h;have hf:=(Ci.1 hx).1;rw [e1,← e2,aJy (by omega),Nat.add_sub_cancel_left,aGg hf]
 exact hx
theorem cC{l:List α}{i:Nat}(hE:∀ a,(E a).length=k){e:α}(h:l[i]? = some e):i*k+k≤((l.map E).flatten).length:=by
 obtain ⟨a,b,e1,e2⟩:=wG hE h;rw [e1,Bv,Bv,hE,e2];omega
theorem bG{l:List α}{i:Nat}(hE:∀ a,(E a).length=k){e:α}(h:l[i]? = some e){x:PV}(hx:PV.agg (E e)=x):some (.agg ((((l.map E).flatten).drop (i*k)).take k):PV)=some x:=by
 obtain ⟨a,b,e1,e2⟩:=wG hE h;rw [e1,← e2,List.drop_left,List.take_left' (hE e),hx]
theorem bB{l:List α}{i:Int}(hE:∀ a,(E a).length=k)(hk:0<k)(h0:0≤i){e:α}(h:l[i.toNat]? = some e):0≤i∧i<(l.length:Int)∧i.toNat*k<((l.map E).flatten).length:=by
 have hi:=(Ci.1 h).1;refine ⟨h0,by omega,?_⟩
 rw [rM hE];exact Nat.mul_lt_mul_of_pos_right hi hk
end
end
section
variable {r0:Bool}{k:Int}{i i' Ap base:Nat}

noncomputable abbrev pA:Code:=sub (cd Tryz.f199) [1,0,1,0,0]
def aN(r:List Cel):PV := .sl r.length ((r.map cE).flatten)
abbrev bZ(R:List (List Cel)):PV := .sl R.length (R.map aN)
theorem bWb{r:List Cel}(Al:r0=(decide ((r.length:Int) > 0))):FV Tp 183 [(.p (.sl r.length ((r.map cE).flatten)))] base (pB r0) []:=by
 subst Al;exact FV.fi func183 [] gn
def Du(r:List Cel):Bool:=decide ((r.length:Int) > 0)
theorem bWc(r:List Cel){base:Nat}:FV Tp 183 [.p (.sl r.length ((r.map cE).flatten))] base (pB (Du r)) []:=bWb rfl
theorem bMv{x:List Cel}(Al:r0=(!(Du x))):FMM Tp 221 [(.p (.sl x.length ((x.map cE).flatten))),(.ptr 0 0)] [some (.box 229 [(.fn 183 [] [])])] (pB r0) [some (.box 229 [(.fn 183 [] [])])]:=by
 subst Al;exact FMM.fi 1 gE func221 [.c (pB (Du x)) []] (gc (fk 1 (bWc x) rfl) gn)
theorem aSa(x:List Cel)  : FMM Tp 221 [.p (.sl x.length ((x.map cE).flatten)),.ptr 0 0] [some (.box 229 [(.fn 183 [] [])])] (pB (!(Du x))) [some (.box 229 [(.fn 183 [] [])])]:=bMv rfl
def fQ(l:List (List Cel))(i:Nat):St:=⟨fr 19 [(0,(.p (.sl l.length (l.map aN)))),(1,(.fn 221 [] [(.ptr 0 0)])),(7,(pI (l.length:Int))),(8,(pI (i:Int)))],[some (.box 229 [(.fn 183 [] [])])]⟩
theorem bMw{l:List (List Cel)}(hl0:aF Tp 1 pA (fQ l 0) (.exit 0) (fQ l Ap)):FMM Tp 199 [(.p (.sl l.length (l.map aN))),(.fn 221 [] [(.ptr 0 0)])] [some (.box 229 [(.fn 183 [] [])])] (pI (-1)) [some (.box 229 [(.fn 183 [] [])])]:=FMM.fi 1 gE func199 [hl0.k 6 (gZ cf)] (gc hl0.code gn)
theorem bMx{l:List (List Cel)}(hl0:aF Tp 1 pA (fQ l 0) .ret (cJ (fQ l Ap) [(4,(pI (Ap:Int)))])):FMM Tp 199 [(.p (.sl l.length (l.map aN))),(.fn 221 [] [(.ptr 0 0)])] [some (.box 229 [(.fn 183 [] [])])] (pI (Ap:Int)) [some (.box 229 [(.fn 183 [] [])])]:=FMM.fi 1 gE func199 [hl0.k 6 (gZ cf)] (gc hl0.code gn)
section
variable{l:List (List Cel)}{Ab:List Cel}(h0:(i:Int)<(l.length:Int))(h1:l[i]? = some Ab)
include h0 h1
theorem aOv(h2:(Du Ab)=false):aA Tp 1 pA (fQ l i) .ret (cJ (fQ l i) [(4,(pI (i:Int)))]):=have k1:=mq [0] 1 (aSa Ab);aA.fi (gZ bt) [bT,.x (.sl Ab.length ((Ab.map cE).flatten)),k1.o,bT] (gc (dB h2) (gc k1 (gc (atm aN h1) (gc (ixn aN h1) (g0 h0)))))
theorem aOw(h2:(Du Ab)=true)(h3:cp i)(Ai:i'=(i+1)):aA Tp 1 pA (fQ l i) .normal (fQ l i'):=by
 subst Ai;have k1:=mq [0] 1 (aSa Ab);exact aA.fi (gZ cf) [bT,.x (.sl Ab.length ((Ab.map cE).flatten)),k1.o,bF] (gc h3 (gc (aW h2) (gc k1 (gc (atm aN h1) (gc (ixn aN h1) (g0 h0))))))
end
theorem aOx{l:List (List Cel)}(h0:(l.length:Int)≤(i:Int)):aA Tp 1 pA (fQ l i) (.exit 0) (fQ l i):=aA.fi (gZ cf) [bF] (gc (bH h0) gn)
theorem bMy(l:List (List Cel))(hl:l.length≤100000):FMM Tp 199 [.p (bZ l),(.fn 221 [] [(.ptr 0 0)])] [some (.box 229 [(.fn 183 [] [])])] (pI (nE (fun x => !(Du x)) l)) [some (.box 229 [(.fn 183 [] [])])]:=by
 rcases aF.find (P:=Tp) (k:=1) (b:=pA) (fun i=>fQ l i) (fun i _=>cJ (fQ l i) [(4,.p (aB (i:Int)))]) (fQ l l.length) .ret (.exit 0) (by simp) (by simp) (fun x => !(Du x)) l
  (fun i x hx hp=>aOw (by have:=bC hx;omega) hx (by simpa using hp) (aR (by have:=bC hx;omega)) rfl)
  (fun i x hx hp=>aOv (by have:=bC hx;omega) hx (by simpa using hp))
  (aOx (l:=l) (i:=l.length) (by omega)) with ⟨i,x,h1,h2,h3,h4⟩ | ⟨h1,h2,h3⟩
 ·rw [jF h2];exact bMx h4
 ·rw [jG h1];exact bMw h3
theorem bMz{l:List (List Cel)}(h0:l.length≤100000)(Al:r0=(decide ((nE (fun x => !(Du x)) l) ≥ 0))):FMM Tp 135 [(.p (.sl l.length (l.map aN))),(.fn 221 [] [(.ptr 0 0)])] [some (.box 229 [(.fn 183 [] [])])] (pB r0) [some (.box 229 [(.fn 183 [] [])])]:=by
 subst Al;have k1:=mq [0] 1 (bMy l h0);exact FMM.fi 1 gE func135 [k1.o] (gc k1 gn)
theorem bNa(l:List (List Cel))(hl:l.length≤100000):FMM Tp 135 [.p (bZ l),(.fn 221 [] [(.ptr 0 0)])] [some (.box 229 [(.fn 183 [] [])])] (pB (l.any (fun x => !(Du x)))) [some (.box 229 [(.fn 183 [] [])])]:=bMz hl (lG _ _).symm
theorem bNb{l:List (List Cel)}(h0:l.length≤100000)(Al:r0=(!(l.any (fun x => !(Du x))))):FV Tp 182 [(.p (.sl l.length (l.map aN))),(.fn 183 [] [])] base (pB r0) []:=by
 subst Al;have k1:=mq [0] 1 (bNa l h0);exact FV.fi func182 [k1.o] (gc k1 gn)
theorem yE(l:List (List Cel))(hl:l.length≤100000){base:Nat}:FV Tp 182 [.p (bZ l),(.fn 183 [] [])] base (pB (l.all (Du))) []:=bNb hl (by rw [List.all_eq_not_any_not])
theorem bWd{r:List Cel}(h0:(r.length:Int)=0):FV Tp 206 [(.p (.sl r.length ((r.map cE).flatten))),(.rp [(bD (aJ k))] 0)] base (pB true) []:=FV.fi func206 (rT 6) (G3 (dC h0) gn)
theorem bWe{r:List Cel}(h0:(r.length:Int)≠0)(Al:r0=((r.length:Int) == ((aJ k).length:Int))):FV Tp 206 [(.p (.sl r.length ((r.map cE).flatten))),(.rp [(bD (aJ k))] 0)] base (pB r0) []:=by
 subst Al;exact FV.fi func206 [bF,bF,bF,.x (bD (aJ k)),bF,bF,bF] (A2 (bJ h0) (gr (bD (aJ k)) (A2 (bJ h0) gn)))
def fF(k:Int)(r:List Cel):Bool:=decide ((r.length:Int)=0) || ((r.length:Int) == ((aJ k).length:Int))
theorem bWf(r:List Cel)(k:Int){base:Nat}:FV Tp 206 [.p (.sl r.length ((r.map cE).flatten)),.rp [bD (aJ k)] 0] base (pB (fF k r)) []:=by
 by_cases h:(r.length:Int)=0
 ·have e:fF k r=true:=by simp only [fF,h,decide_true,Bool.true_or]
  rw [e];exact bWd h
 ·exact bWe h (by simp only [fF,h,decide_false,Bool.false_or])
theorem bNc{x:List Cel}(Al:r0=(!(fF k x))):FMM Tp 221 [(.p (.sl x.length ((x.map cE).flatten))),(.ptr 0 0)] [some (.box 229 [(.fn 206 [] [(.rp [(bD (aJ k))] 0)])])] (pB r0) [some (.box 229 [(.fn 206 [] [(.rp [(bD (aJ k))] 0)])])]:=by
 subst Al;exact FMM.fi 1 gE func221 [.c (pB (fF k x)) []] (gc (fk 1 (bWf x k) rfl) gn)
theorem aSb(x:List Cel)(k:Int):FMM Tp 221 [.p (.sl x.length ((x.map cE).flatten)),.ptr 0 0] [some (.box 229 [(.fn 206 [] [(.rp [(bD (aJ k))] 0)])])] (pB (!(fF k x))) [some (.box 229 [(.fn 206 [] [(.rp [(bD (aJ k))] 0)])])]:=bNc rfl
def fR(l:List (List Cel))(k:Int)(i:Nat):St:=⟨fr 19 [(0,(.p (.sl l.length (l.map aN)))),(1,(.fn 221 [] [(.ptr 0 0)])),(7,(pI (l.length:Int))),(8,(pI (i:Int)))],[some (.box 229 [(.fn 206 [] [(.rp [(bD (aJ k))] 0)])])]⟩
theorem bNd{l:List (List Cel)}(hl0:aF Tp 1 pA (fR l k 0) (.exit 0) (fR l k Ap)):FMM Tp 199 [(.p (.sl l.length (l.map aN))),(.fn 221 [] [(.ptr 0 0)])] [some (.box 229 [(.fn 206 [] [(.rp [(bD (aJ k))] 0)])])] (pI (-1)) [some (.box 229 [(.fn 206 [] [(.rp [(bD (aJ k))] 0)])])]:=FMM.fi 1 gE func199 [hl0.k 6 (gZ cf)] (gc hl0.code gn)
theorem bNe{l:List (List Cel)}(hl0:aF Tp 1 pA (fR l k 0) .ret (cJ (fR l k Ap) [(4,(pI (Ap:Int)))])):FMM Tp 199 [(.p (.sl l.length (l.map aN))),(.fn 221 [] [(.ptr 0 0)])] [some (.box 229 [(.fn 206 [] [(.rp [(bD (aJ k))] 0)])])] (pI (Ap:Int)) [some (.box 229 [(.fn 206 [] [(.rp [(bD (aJ k))] 0)])])]:=FMM.fi 1 gE func199 [hl0.k 6 (gZ cf)] (gc hl0.code gn)
section
variable{l:List (List Cel)}{Ab:List Cel}(h0:(i:Int)<(l.length:Int))(h1:l[i]? = some Ab)
include h0 h1
theorem aOy(h2:(fF k Ab)=false):aA Tp 1 pA (fR l k i) .ret (cJ (fR l k i) [(4,(pI (i:Int)))]):=have k1:=mq [0] 1 (aSb Ab k);aA.fi (gZ bt) [bT,.x (.sl Ab.length ((Ab.map cE).flatten)),k1.o,bT] (gc (dB h2) (gc k1 (gc (atm aN h1) (gc (ixn aN h1) (g0 h0)))))
theorem aOz(h2:(fF k Ab)=true)(h3:cp i)(Ai:i'=(i+1)):aA Tp 1 pA (fR l k i) .normal (fR l k i'):=by
 subst Ai;have k1:=mq [0] 1 (aSb Ab k);exact aA.fi (gZ cf) [bT,.x (.sl Ab.length ((Ab.map cE).flatten)),k1.o,bF] (gc h3 (gc (aW h2) (gc k1 (gc (atm aN h1) (gc (ixn aN h1) (g0 h0))))))
end
theorem aPa{l:List (List Cel)}(h0:(l.length:Int)≤(i:Int)):aA Tp 1 pA (fR l k i) (.exit 0) (fR l k i):=aA.fi (gZ cf) [bF] (gc (bH h0) gn)
theorem bNf(l:List (List Cel))(k:Int)(hl:l.length≤100000):FMM Tp 199 [.p (bZ l),(.fn 221 [] [(.ptr 0 0)])] [some (.box 229 [(.fn 206 [] [(.rp [(bD (aJ k))] 0)])])] (pI (nE (fun x => !(fF k x)) l)) [some (.box 229 [(.fn 206 [] [(.rp [(bD (aJ k))] 0)])])]:=by
 rcases aF.find (P:=Tp) (k:=1) (b:=pA) (fun i=>fR l k i) (fun i _=>cJ (fR l k i) [(4,.p (aB (i:Int)))]) (fR l k l.length) .ret (.exit 0) (by simp) (by simp) (fun x => !(fF k x)) l
  (fun i x hx hp=>aOz (by have:=bC hx;omega) hx (by simpa using hp) (aR (by have:=bC hx;omega)) rfl)
  (fun i x hx hp=>aOy (by have:=bC hx;omega) hx (by simpa using hp))
  (aPa (l:=l) (i:=l.length) (by omega)) with ⟨i,x,h1,h2,h3,h4⟩ | ⟨h1,h2,h3⟩
 ·rw [jF h2];exact bNe h4
 ·rw [jG h1];exact bNd h3
theorem bNg{l:List (List Cel)}(h0:l.length≤100000)(Al:r0=(decide ((nE (fun x => !(fF k x)) l) ≥ 0))):FMM Tp 135 [(.p (.sl l.length (l.map aN))),(.fn 221 [] [(.ptr 0 0)])] [some (.box 229 [(.fn 206 [] [(.rp [(bD (aJ k))] 0)])])] (pB r0) [some (.box 229 [(.fn 206 [] [(.rp [(bD (aJ k))] 0)])])]:=by
 subst Al;have k1:=mq [0] 1 (bNf l k h0);exact FMM.fi 1 gE func135 [k1.o] (gc k1 gn)
theorem bNh(l:List (List Cel))(k:Int)(hl:l.length≤100000):FMM Tp 135 [.p (bZ l),(.fn 221 [] [(.ptr 0 0)])] [some (.box 229 [(.fn 206 [] [(.rp [(bD (aJ k))] 0)])])] (pB (l.any (fun x => !(fF k x)))) [some (.box 229 [(.fn 206 [] [(.rp [(bD (aJ k))] 0)])])]:=bNg hl (lG _ _).symm
theorem bNi{l:List (List Cel)}(h0:l.length≤100000)(Al:r0=(!(l.any (fun x => !(fF k x))))):FV Tp 182 [(.p (.sl l.length (l.map aN))),(.fn 206 [] [(.rp [(bD (aJ k))] 0)])] base (pB r0) []:=by
 subst Al;have k1:=mq [0] 1 (bNh l k h0);exact FV.fi func182 [k1.o] (gc k1 gn)
theorem aGu(l:List (List Cel))(k:Int)(hl:l.length≤100000){base:Nat}:FV Tp 182 [.p (bZ l),(.fn 206 [] [(.rp [(bD (aJ k))] 0)])] base (pB (l.all (fF k))) []:=bNi hl (by rw [List.all_eq_not_any_not])
end
section
variable {k ea eb Bb Cl Dl:Int}{i j q j' q' qa qb Hk base Gj Ir B8 E0:Nat}

noncomputable abbrev lZ:Code:=sub (cd Tryz.f145) [1,1,1,1,0,1,0,0,1,1,0,0,1,1,0,0,1,1,0,0,1,1,0,0]
noncomputable abbrev sF:Code:=sub (cd Tryz.f145) [1,1,1,1,0,1,0,0,1,1,0,0,1,1,0,0]
noncomputable abbrev aAw:Code:=sub (cd Tryz.f145) [1,1,1,1,0,1,0,0]
theorem bRl:0≤(0:Int)∧(0:Int)<2:=by first | decide | simp
theorem bRm:(decide ((0:Int)<2))=true:=by first | decide | simp
theorem bRn:0≤(1:Int)∧(1:Int)<2:=by first | decide | simp
theorem bRo:(decide ((1:Int)<2))=true:=by first | decide | simp
theorem bRp:0≤(0:Int)∧(0:Int)<4:=by first | decide | simp
theorem bRq:0≤(1:Int)∧(1:Int)<4:=by first | decide | simp
theorem bRr:0≤(2:Int)∧(2:Int)<4:=by first | decide | simp
theorem bRs:0≤(3:Int)∧(3:Int)<4:=by first | decide | simp
abbrev a6(k:Int):Mem:=[some (.box 65 [(.p (bD (aJ k)))]),some (.box 214 [(.fn 224 [] [(.rp [(PV.fn 188 [] [])] 0)]),(.fn 225 [] [(.rp [(PV.fn 120 [] [])] 0)]),(.fn 226 [] [(.rp [(aB 999999)] 0)]),(.fn 224 [] [(.rp [(PV.fn 39 [] [])] 0)]),(.fn 225 [] [(.rp [(PV.fn 189 [] [])] 0)]),(.fn 226 [] [(.rp [(aB 360000)] 0)]),(.fn 227 [] [(.rp [(PV.fn 191 [] [])] 0)]),(.fn 228 [] []),(.fn 229 [] [(.rp [(PV.fn 191 [] [])] 0)]),(.fn 227 [] [(.rp [(PV.fn 192 [] [])] 0)]),(.fn 228 [] []),(.fn 229 [] [(.rp [(PV.fn 192 [] [])] 0)])])]
def iS(k:Int)(R:List (List Cel))(q:Nat):St:=⟨fr 56 [(1,(.p (.sl R.length (R.map aN)))),(5,(.ptr 0 0)),(7,(.ptr 1 0)),(24,(.p (.agg [(aB 3),(aB 11)]))),(25,(pI (q:Int)))],(a6 k)⟩
section
variable{R:List (List Cel)}(h0:R.length≤100000)
include h0
theorem bVz(h1:(R.all (fF k))=false):FV Tp 145 [(pI k),(.p (.sl R.length (R.map aN)))] base (pI 2) []:=have k1:=fk 0 (eT k) rfl;FV.fi func145 [k1.o,.c (pB (R.all (fF k))) [],bT] (gc (dB h1) (gt (FC Tp 182 [(.p (.sl R.length (R.map aN))),(.fn 206 [] [(.ptr 0 0)])] [(0,(.box 65 [(.p (bD (aJ k)))]))] 1 (pB (R.all (fF k))) []) (fv (aGu R k h0)) (gc k1 gn)))
theorem bWa(h1:(R.all (fF k))=true)(Bl:aF Tp 0 aAw (iS k R 0) (.exit 0) (iS k R Hk)):FV Tp 145 [(pI k),(.p (.sl R.length (R.map aN)))] base (pI 0) []:=have k1:=fk 0 (eT k) rfl;have k2:=fk 1 (eS) rfl;FV.fi func145 [k1.o,.c (pB (R.all (fF k))) [],bF,k2.o,Bl.k 4 (gI b6 [0,1])] (gc Bl.code (gc k2 (gc (aW h1) (gt (FC Tp 182 [(.p (.sl R.length (R.map aN))),(.fn 206 [] [(.ptr 0 0)])] [(0,(.box 65 [(.p (bD (aJ k)))]))] 1 (pB (R.all (fF k))) []) (fv (aGu R k h0)) (gc k1 gn)))))
theorem bHj{r0:Int}(h1:(R.all (fF k))=true)(Bl:aF Tp 0 aAw (iS k R 0) .ret (cJ (iS k R Hk) [(4,(pI (if Hk=0 then 3 else 11)))]))(Al:r0=(if Hk=0 then 3 else 11)):FV Tp 145 [(pI k),(.p (.sl R.length (R.map aN)))] base (pI r0) []:=by
 subst Al;have k1:=fk 0 (eT k) rfl;have k2:=fk 1 (eS) rfl;exact FV.fi func145 [k1.o,.c (pB (R.all (fF k))) [],bF,k2.o,Bl.k 4 (gI b6 [0,1])] (gc Bl.code (gc k2 (gc (aW h1) (gt (FC Tp 182 [(.p (.sl R.length (R.map aN))),(.fn 206 [] [(.ptr 0 0)])] [(0,(.box 65 [(.p (bD (aJ k)))]))] 1 (pB (R.all (fF k))) []) (fv (aGu R k h0)) (gc k1 gn)))))
end
def eK(k:Int)(R:List (List Cel))(i qa:Nat)(ea:Int):St:=⟨fr 56 [(1,(.p (.sl R.length (R.map aN)))),(5,(.ptr 0 0)),(7,(.ptr 1 0)),(9,(pI ea)),(24,(.p (.agg [(aB 3),(aB 11)]))),(25,(pI (qa:Int))),(28,(.p (.sl R.length (R.map aN)))),(29,(pI (R.length:Int))),(30,(pI (i:Int)))],(a6 k)⟩
theorem aEh{R:List (List Cel)}(Ar:q=0)(An:aF Tp 0 sF (eK k R 0 0 3) (.exit 2) (eK k R Gj B8 Cl))(h2:inR (((B8+1):Nat):Int))(D8:q'=(B8+1)):aA Tp 0 aAw (iS k R q) .normal (iS k R q'):=by
 subst Ar;subst D8;exact aA.fi (gI b6 [0,1]) [bT,An.k 7 (gI ap [0,1])] (gc h2 (gc An.code (gc bRl (gc bRm gn))))
theorem aZc{R:List (List Cel)}(Ar:q=0)(An:aF Tp 0 sF (eK k R 0 0 3) .ret (cJ (eK k R Gj B8 Cl) [(4,(pI Cl))])):aA Tp 0 aAw (iS k R q) .ret (cJ (iS k R B8) [(4,(pI Cl))]):=by
 subst Ar;exact aA.fi (gI [0,1,2,2,6,1,8,16,26,30] [0,1]) [bT,An.k 7 (gI ap [0,1])] (gc An.code (gc bRl (gc bRm gn)))
theorem aZd{R:List (List Cel)}(Ar:q=1)(An:aF Tp 0 sF (eK k R 0 1 11) (.exit 2) (eK k R Gj B8 Cl))(h2:inR (((B8+1):Nat):Int))(D8:q'=(B8+1)):aA Tp 0 aAw (iS k R q) .normal (iS k R q'):=by
 subst Ar;subst D8;exact aA.fi (gI b6 [0,1]) [bT,An.k 7 (gI ap [0,1])] (gc h2 (gc An.code (gc bRn (gc bRo gn))))
theorem aZe{R:List (List Cel)}(Ar:q=1)(An:aF Tp 0 sF (eK k R 0 1 11) .ret (cJ (eK k R Gj B8 Cl) [(4,(pI Cl))])):aA Tp 0 aAw (iS k R q) .ret (cJ (iS k R B8) [(4,(pI Cl))]):=by
 subst Ar;exact aA.fi (gI [0,1,2,2,6,1,8,16,26,30] [0,1]) [bT,An.k 7 (gI ap [0,1])] (gc An.code (gc bRn (gc bRo gn)))
theorem aZf{R:List (List Cel)}(Ar:q=2)(D8:q'=2):aA Tp 0 aAw (iS k R q) (.exit 0) (iS k R q'):=by
 subst Ar;subst D8;exact aA.fi (gI b6 [0,1]) [bF] (gt ((decide ((2:Int)<2))=false) (by first | decide | simp) gn)
def dK(k:Int)(R:List (List Cel))(i:Nat)(Ac:List Cel)(j qb:Nat)(eb:Int):St:=⟨fr 56 [(1,(.p (.sl R.length (R.map aN)))),(5,(.ptr 0 0)),(7,(.ptr 1 0)),(9,(pI eb)),(11,(.p (.sl Ac.length ((Ac.map cE).flatten)))),(24,(.p (.agg [(aB 3),(aB 11)]))),(25,(pI (qb:Int))),(28,(.p (.sl R.length (R.map aN)))),(29,(pI (R.length:Int))),(30,(pI (i:Int))),(31,(pB (decide ((i:Int)<(R.length:Int))))),(32,(.rp (R.map aN) (i*1))),(33,(.p (.sl Ac.length ((Ac.map cE).flatten)))),(34,(.p (.sl Ac.length ((Ac.map cE).flatten)))),(35,(pI (Ac.length:Int))),(36,(pI (j:Int)))],(a6 k)⟩
section
variable{R:List (List Cel)}{Ac:List Cel}(h0:(i:Int)<(R.length:Int))(h1:R[i]? = some Ac)
include h0 h1
theorem aZg{i':Nat}(Bl:aF Tp 0 lZ (dK k R i Ac 0 qa ea) (.exit 4) (dK k R i Ac Ir E0 Dl))(h3:cp i)(Ai:i'=(i+1)):aA Tp 0 sF (eK k R i qa ea) .normal (eK k R i' E0 Dl):=by
 subst Ai;exact aA.fi (gI ap [0,1]) [bT,.x (.sl Ac.length ((Ac.map cE).flatten)),Bl.k 3 (gI ah [0,1])] (gc h3 (gc Bl.code (gc (atm aN h1) (gc (ixn aN h1) (g0 h0)))))
theorem aZh(Bl:aF Tp 0 lZ (dK k R i Ac 0 qa ea) .ret (cJ (dK k R i Ac Ir E0 Dl) [(4,(pI Dl))])):aA Tp 0 sF (eK k R i qa ea) .ret (cJ (eK k R i E0 Dl) [(4,(pI Dl))]):=aA.fi (gI [0,1,2,2,6,1,8,1,10,14,26,2,31,24] [0,1]) [bT,.x (.sl Ac.length ((Ac.map cE).flatten)),Bl.k 3 (gI ah [0,1])] (gc Bl.code (gc (atm aN h1) (gc (ixn aN h1) (g0 h0))))
end
theorem aZi{R:List (List Cel)}(h0:(R.length:Int)≤(i:Int)):aA Tp 0 sF (eK k R i qa ea) (.exit 2) (eK k R i qa ea):=aA.fi (gI ap [0,1]) [bF] (gc (bH h0) gn)
section
variable{Ac:List Cel}{A8:List UInt8}(h0:(j:Int)<(Ac.length:Int))(h1:Ac[j]? = some (Bb,A8))
include h0 h1
theorem aZj{R:List (List Cel)}(h2:(aJ k)[j]? = some 0)(h3:(ckM 0 (Bb,A8))=eb):aA Tp 0 lZ (dK k R i Ac j qb eb) .ret (cJ (dK k R i Ac j qb eb) [(4,(pI eb))]):=have k1:=fk 3 (bHs Bb A8) rfl;aA.fi (gI ai [0,1]) [bT,.x (.agg [(aB Bb),(aD A8)]),.x (aB 0),k1.o,bT] (gc (dC h3) (gc k1 (gc bRp (gc (atm aB h2) (gc (ixn aB h2) (gc (bG (E:=cE) (i:=j) (k:=2) (fun _=>rfl) h1 rfl) (gc (cC (E:=cE) (i:=j) (k:=2) (fun _=>rfl) h1) (gc (bB (E:=cE) (k:=2) (i:=(j:Int)) (fun _=>rfl) (by decide) (Bt _) h1) (g0 h0)))))))))
theorem aZk{R:List (List Cel)}(h2:(aJ k)[j]? = some 0)(h3:(ckM 0 (Bb,A8))≠eb)(h4:cp j)(Bz:j'=(j+1)):aA Tp 0 lZ (dK k R i Ac j qb eb) .normal (dK k R i Ac j' qb eb):=by
 subst Bz;have k1:=fk 3 (bHs Bb A8) rfl;exact aA.fi (gI ah [0,1]) [bT,.x (.agg [(aB Bb),(aD A8)]),.x (aB 0),k1.o,bF] (gc h4 (gc (bJ h3) (gc k1 (gc bRp (gc (atm aB h2) (gc (ixn aB h2) (gc (bG (E:=cE) (i:=j) (k:=2) (fun _=>rfl) h1 rfl) (gc (cC (E:=cE) (i:=j) (k:=2) (fun _=>rfl) h1) (gc (bB (E:=cE) (k:=2) (i:=(j:Int)) (fun _=>rfl) (by decide) (Bt _) h1) (g0 h0))))))))))
theorem aZl{R:List (List Cel)}(h2:(aJ k)[j]? = some 1)(h3:(ckM 1 (Bb,A8))=eb):aA Tp 0 lZ (dK k R i Ac j qb eb) .ret (cJ (dK k R i Ac j qb eb) [(4,(pI eb))]):=have k1:=fk 3 (bHt Bb A8) rfl;aA.fi (gI ai [0,1]) [bT,.x (.agg [(aB Bb),(aD A8)]),.x (aB 1),k1.o,bT] (gc (dC h3) (gc k1 (gc bRq (gc (atm aB h2) (gc (ixn aB h2) (gc (bG (E:=cE) (i:=j) (k:=2) (fun _=>rfl) h1 rfl) (gc (cC (E:=cE) (i:=j) (k:=2) (fun _=>rfl) h1) (gc (bB (E:=cE) (k:=2) (i:=(j:Int)) (fun _=>rfl) (by decide) (Bt _) h1) (g0 h0)))))))))
theorem aZm{R:List (List Cel)}(h2:(aJ k)[j]? = some 1)(h3:(ckM 1 (Bb,A8))≠eb)(h4:cp j)(Bz:j'=(j+1)):aA Tp 0 lZ (dK k R i Ac j qb eb) .normal (dK k R i Ac j' qb eb):=by
 subst Bz;have k1:=fk 3 (bHt Bb A8) rfl;exact aA.fi (gI ah [0,1]) [bT,.x (.agg [(aB Bb),(aD A8)]),.x (aB 1),k1.o,bF] (gc h4 (gc (bJ h3) (gc k1 (gc bRq (gc (atm aB h2) (gc (ixn aB h2) (gc (bG (E:=cE) (i:=j) (k:=2) (fun _=>rfl) h1 rfl) (gc (cC (E:=cE) (i:=j) (k:=2) (fun _=>rfl) h1) (gc (bB (E:=cE) (k:=2) (i:=(j:Int)) (fun _=>rfl) (by decide) (Bt _) h1) (g0 h0))))))))))
theorem aZn{R:List (List Cel)}(h2:(aJ k)[j]? = some 2)(h3:(ckM 2 (Bb,A8))=eb):aA Tp 0 lZ (dK k R i Ac j qb eb) .ret (cJ (dK k R i Ac j qb eb) [(4,(pI eb))]):=have k1:=fk 3 (bHu Bb A8) rfl;aA.fi (gI ai [0,1]) [bT,.x (.agg [(aB Bb),(aD A8)]),.x (aB 2),k1.o,bT] (gc (dC h3) (gc k1 (gc bRr (gc (atm aB h2) (gc (ixn aB h2) (gc (bG (E:=cE) (i:=j) (k:=2) (fun _=>rfl) h1 rfl) (gc (cC (E:=cE) (i:=j) (k:=2) (fun _=>rfl) h1) (gc (bB (E:=cE) (k:=2) (i:=(j:Int)) (fun _=>rfl) (by decide) (Bt _) h1) (g0 h0)))))))))
theorem aZo{R:List (List Cel)}(h2:(aJ k)[j]? = some 2)(h3:(ckM 2 (Bb,A8))≠eb)(h4:cp j)(Bz:j'=(j+1)):aA Tp 0 lZ (dK k R i Ac j qb eb) .normal (dK k R i Ac j' qb eb):=by
 subst Bz;have k1:=fk 3 (bHu Bb A8) rfl;exact aA.fi (gI ah [0,1]) [bT,.x (.agg [(aB Bb),(aD A8)]),.x (aB 2),k1.o,bF] (gc h4 (gc (bJ h3) (gc k1 (gc bRr (gc (atm aB h2) (gc (ixn aB h2) (gc (bG (E:=cE) (i:=j) (k:=2) (fun _=>rfl) h1 rfl) (gc (cC (E:=cE) (i:=j) (k:=2) (fun _=>rfl) h1) (gc (bB (E:=cE) (k:=2) (i:=(j:Int)) (fun _=>rfl) (by decide) (Bt _) h1) (g0 h0))))))))))
theorem aZp{R:List (List Cel)}(h2:(aJ k)[j]? = some 3)(h3:(ckM 3 (Bb,A8))=eb):aA Tp 0 lZ (dK k R i Ac j qb eb) .ret (cJ (dK k R i Ac j qb eb) [(4,(pI eb))]):=have k1:=fk 3 (bHv Bb A8) rfl;aA.fi (gI ai [0,1]) [bT,.x (.agg [(aB Bb),(aD A8)]),.x (aB 3),k1.o,bT] (gc (dC h3) (gc k1 (gc bRs (gc (atm aB h2) (gc (ixn aB h2) (gc (bG (E:=cE) (i:=j) (k:=2) (fun _=>rfl) h1 rfl) (gc (cC (E:=cE) (i:=j) (k:=2) (fun _=>rfl) h1) (gc (bB (E:=cE) (k:=2) (i:=(j:Int)) (fun _=>rfl) (by decide) (Bt _) h1) (g0 h0)))))))))
theorem aZq{R:List (List Cel)}(h2:(aJ k)[j]? = some 3)(h3:(ckM 3 (Bb,A8))≠eb)(h4:cp j)(Bz:j'=(j+1)):aA Tp 0 lZ (dK k R i Ac j qb eb) .normal (dK k R i Ac j' qb eb):=by
 subst Bz;have k1:=fk 3 (bHv Bb A8) rfl;exact aA.fi (gI ah [0,1]) [bT,.x (.agg [(aB Bb),(aD A8)]),.x (aB 3),k1.o,bF] (gc h4 (gc (bJ h3) (gc k1 (gc bRs (gc (atm aB h2) (gc (ixn aB h2) (gc (bG (E:=cE) (i:=j) (k:=2) (fun _=>rfl) h1 rfl) (gc (cC (E:=cE) (i:=j) (k:=2) (fun _=>rfl) h1) (gc (bB (E:=cE) (k:=2) (i:=(j:Int)) (fun _=>rfl) (by decide) (Bt _) h1) (g0 h0))))))))))
end
theorem aZr{R:List (List Cel)}{Ac:List Cel}(h0:(Ac.length:Int)≤(j:Int)):aA Tp 0 lZ (dK k R i Ac j qb eb) (.exit 4) (dK k R i Ac j qb eb):=aA.fi (gI ah [0,1]) [bF] (gc (bH h0) gn)
def aKk(k:Int)(x:List Cel):List Int:=List.zipWith ckM (aJ k) x
def aAx(k e:Int)(x:List Cel):Bool:=(aKk k x).any (fun c=>c == e)
def lI(k:Int)(R:List (List Cel)):Int:=if R.all (fF k)=false then 2 else if R.any (aAx k 3)=true then 3 else if R.any (aAx k 11)=true then 11 else 0
theorem iT{k t:Int}{j:Nat}(h:(aJ k)[j]? = some t):t=0∨t=1∨t=2∨t=3:=by
 have:=B0 h;unfold aJ at this
 split at this
 ·simp at this;omega
 ·split at this
  ·simp at this;omega
  ·split at this
   ·simp at this;omega
   ·split at this <;> (simp at this;omega)
theorem aGs{k:Int}{x:List Cel}{j:Nat}{c:Int}(h:(aKk k x)[j]? = some c):∃ t a z,(aJ k)[j]? = some t∧x[j]? = some (a,z)∧c=ckM t (a,z):=by
 unfold aKk at h
 rw [List.getElem?_zipWith] at h
 cases h1:(aJ k)[j]? with
 | none=>rw [h1] at h;simp at h
 | some t =>
  cases h2:x[j]? with
  | none=>rw [h1,h2] at h;simp at h
  | some c2 =>
   rw [h1,h2] at h
   exact ⟨t,c2.1,c2.2,rfl,rfl,by simpa using h.symm⟩
theorem bMu{k:Int}{x:List Cel}(h:fF k x=true):(aKk k x).length=x.length∧x.length≤4:=by
 have hc:(aJ k).length≤4:=by unfold aJ;(repeat' split) <;> simp
 unfold aKk;rw [List.length_zipWith];unfold fF at h
 rw [aCj] at h
 rcases h with h | h
 ·have:=of_decide_eq_true h
  omega
 ·have:=eq_of_beq h
  omega
theorem Kt{k:Int}{R:List (List Cel)}{i:Nat}{x:List Cel}(qb:Nat)(eb:Int)(hf:fF k x=true) :
  (aAx k eb x=true∧∃ j,aF Tp 0 lZ (dK k R i x 0 qb eb) .ret (cJ (dK k R i x j qb eb) [(4,(pI eb))]))∨(aAx k eb x=false∧aF Tp 0 lZ (dK k R i x 0 qb eb) (.exit 4) (dK k R i x x.length qb eb)):=by
 obtain ⟨hl,h4⟩:=bMu hf
 rcases aF.find (P:=Tp) (k:=0) (b:=lZ) (fun j=>dK k R i x j qb eb) (fun j _=>cJ (dK k R i x j qb eb) [(4,(pI eb))]) (dK k R i x x.length qb eb) .ret (.exit 4) (by simp) (by simp) (fun c=>c == eb) (aKk k x)
  (fun j c hx hp=>by
   obtain ⟨t,a,z,h1,h2,rfl⟩:=aGs hx;have hj:=bC h2;have hp:ckM t (a,z)≠eb:=by simpa using hp
   rcases iT h1 with rfl | rfl | rfl | rfl
   ·exact aZk (by omega) h2 h1 hp (aR (by omega)) rfl
   ·exact aZm (by omega) h2 h1 hp (aR (by omega)) rfl
   ·exact aZo (by omega) h2 h1 hp (aR (by omega)) rfl
   ·exact aZq (by omega) h2 h1 hp (aR (by omega)) rfl)
  (fun j c hx hp=>by
   obtain ⟨t,a,z,h1,h2,rfl⟩:=aGs hx;have hj:=bC h2;have hp:ckM t (a,z)=eb:=by simpa using hp
   rcases iT h1 with rfl | rfl | rfl | rfl
   ·exact aZj (by omega) h2 h1 hp
   ·exact aZl (by omega) h2 h1 hp
   ·exact aZn (by omega) h2 h1 hp
   ·exact aZp (by omega) h2 h1 hp)
  (by rw [hl];exact aZr (by omega)) with ⟨j,c,h1,h2,h3,h5⟩ | ⟨h1,h2,h3⟩
 ·exact .inl ⟨List.any_eq_true.2 ⟨c,B0 h1,h3⟩,j,h5⟩
 ·exact .inr ⟨h2,h3⟩
theorem Ku{k:Int}{R:List (List Cel)}(hR:R.length≤100000)(qa:Nat)(ea:Int)(hf:R.all (fF k)=true) :
  (R.any (aAx k ea)=true∧∃ i,aF Tp 0 sF (eK k R 0 qa ea) .ret (cJ (eK k R i qa ea) [(4,(pI ea))]))∨(R.any (aAx k ea)=false∧aF Tp 0 sF (eK k R 0 qa ea) (.exit 2) (eK k R R.length qa ea)):=by
 rw [iD] at hf
 rcases aF.find (P:=Tp) (k:=0) (b:=sF) (fun i=>eK k R i qa ea) (fun i _=>cJ (eK k R i qa ea) [(4,(pI ea))]) (eK k R R.length qa ea) .ret (.exit 2) (by simp) (by simp) (aAx k ea) R
  (fun i x hx hp=>by
   have hi:=bC hx
   rcases Kt (R:=R) (i:=i) qa ea (hf x (B0 hx)) with ⟨q,_⟩ | ⟨_,L⟩
   ·rw [hp] at q;cases q
   ·exact aZg (by omega) hx L (aR (by omega)) rfl)
  (fun i x hx hp=>by
   have hi:=bC hx
   rcases Kt (R:=R) (i:=i) qa ea (hf x (B0 hx)) with ⟨_,j,L⟩ | ⟨q,_⟩
   ·exact aZh (by omega) hx L
   ·rw [hp] at q;cases q)
  (aZi (by omega)) with ⟨i,x,h1,h2,h3,h5⟩ | ⟨h1,h2,h3⟩
 ·exact .inl ⟨List.any_eq_true.2 ⟨x,B0 h1,h3⟩,i,h5⟩
 ·exact .inr ⟨h2,h3⟩
theorem aGt(k:Int)(R:List (List Cel))(hR:R.length≤100000){base:Nat}:FV Tp 145 [.p (aB k),.p (bZ R)] base (pI (lI k R)) []:=by
 unfold lI;cases hf:R.all (fF k)
 ·rw [if_pos rfl];exact bVz hR hf
 ·rw [if_neg (by simp)]
  rcases Ku hR 0 3 hf with ⟨a,i,L⟩ | ⟨a,L⟩
  ·rw [if_pos a]
   exact bHj (Hk:=0) hR hf (.exit (aZc rfl L) (by simp)) rfl
  ·rw [if_neg (by rw [a];simp)]
   rcases Ku hR 1 11 hf with ⟨a2,i,L2⟩ | ⟨a2,L2⟩
   ·rw [if_pos a2]
    exact bHj (Hk:=1) hR hf (.step (aEh rfl L (aR (by omega)) rfl) (.exit (aZe rfl L2) (by simp))) rfl
   ·rw [if_neg (by rw [a2];simp)]
    exact bWa (Hk:=2) hR hf (.step (aEh rfl L (aR (by omega)) rfl) (.step (aZd rfl L2 (aR (by omega)) rfl) (.exit (aZf rfl rfl) (by simp))))
end
section
variable {k x y a0 a1 a2 b0 b1 b2 r0 Bf:Int}{i i' Ap base:Nat}

noncomputable abbrev uW:Code:=sub (cd Tryz.f178) [1,0,1,0,0]
noncomputable abbrev aAv:Code:=sub (cd Tryz.f105) [1,1,1,0,1,0,0]
theorem aKh:0≤(0:Int)∧(0:Int)<3:=by first | decide | simp
theorem aKi:0≤(1:Int)∧(1:Int)<3:=by first | decide | simp
theorem aKj:0≤(2:Int)∧(2:Int)<3:=by first | decide | simp
theorem bRe:(decide ((3:Int)<3))=false:=by first | decide | simp
theorem bRf:(decide ((0:Int) ≥ 3))=false:=by first | decide | simp
theorem bRg:(decide ((0:Int)<3))=true:=by first | decide | simp
theorem bRh:(decide ((1:Int) ≥ 3))=false:=by first | decide | simp
theorem bRi:(decide ((1:Int)<3))=true:=by first | decide | simp
theorem bRj:(decide ((2:Int) ≥ 3))=false:=by first | decide | simp
theorem bRk:(decide ((2:Int)<3))=true:=by first | decide | simp
def iR(k:Int)(r:List Cel)(i:Nat)(a0 a1 a2:Int):St:=⟨fr 27 [(1,(.p (.sl r.length ((r.map cE).flatten)))),(4,(.ptr 0 0)),(7,(.ptr 1 0)),(14,(pI (aM k))),(15,(pI (i:Int)))],[some (.box 186 [(pI 0),(pI 0),(pI 0)]),some (.box 186 [(pI a0),(pI a1),(pI a2)])]⟩
theorem aOs{r:List Cel}{a0'1 a1'2 a2'3:Int}(hl0:aF Tp 0 aAv (iR k r 0 0 0 0) (.exit 0) (iR k r Ap a0'1 a1'2 a2'3)):FV Tp 105 [(pI k),(.p (.sl r.length ((r.map cE).flatten)))] base (.p (.agg [(aB a0'1),(aB a1'2),(aB a2'3)])) []:=have k1:=fk 1 (eT k) rfl;FV.fi func105 [k1.o,hl0.k 6 (gI b8 [0,1])] (gc hl0.code (gc k1 gn))
theorem wB{r:List Cel}{Bh:List UInt8}(Ar:i=0)(h1:(0:Int)<(aM k))(h2:r[0]? = some (Bf,Bh))(Ai:i'=1):aA Tp 0 aAv (iR k r i a0 a1 a2) .normal (iR k r i' Bf a1 a2):=by
 subst Ar;subst Ai;exact aA.fi (gI b8 [0,1]) [bT,.x (aB Bf)] (gt (inR 1) (by show _∧_;omega) (gc aKh (gt (((r.map cE).flatten)[0]? = some (aB Bf)) (aL (E:=cE) (i:=0) (f:=0) (k:=2) (fun _=>rfl) h2 rfl) (gc (bB (E:=cE) (k:=2) (i:=(0:Int)) (fun _=>rfl) (by decide) (by first | decide | simp) h2) (gc (cN h1) gn)))))
theorem aEf{r:List Cel}{Bh:List UInt8}(Ar:i=1)(h1:(1:Int)<(aM k))(h2:r[1]? = some (Bf,Bh))(Ai:i'=2):aA Tp 0 aAv (iR k r i a0 a1 a2) .normal (iR k r i' a0 Bf a2):=by
 subst Ar;subst Ai;exact aA.fi (gI b8 [0,1]) [bT,.x (aB Bf)] (gt (inR 2) (by show _∧_;omega) (gc aKi (gt (((r.map cE).flatten)[2]? = some (aB Bf)) (aL (E:=cE) (i:=1) (f:=0) (k:=2) (fun _=>rfl) h2 rfl) (gc (bB (E:=cE) (k:=2) (i:=(1:Int)) (fun _=>rfl) (by decide) (by first | decide | simp) h2) (gc (cN h1) gn)))))
theorem aYt{r:List Cel}(Ar:i=1)(h1:(aM k)≤1)(Ai:i'=1):aA Tp 0 aAv (iR k r i a0 a1 a2) (.exit 0) (iR k r i' a0 a1 a2):=by
 subst Ar;subst Ai;exact aA.fi (gI b8 [0,1]) [bF] (gc (bH h1) gn)
theorem aYu{r:List Cel}{Bh:List UInt8}(Ar:i=2)(h1:(2:Int)<(aM k))(h2:r[2]? = some (Bf,Bh))(Ai:i'=3):aA Tp 0 aAv (iR k r i a0 a1 a2) .normal (iR k r i' a0 a1 Bf):=by
 subst Ar;subst Ai;exact aA.fi (gI b8 [0,1]) [bT,.x (aB Bf)] (gt (inR 3) (by show _∧_;omega) (gc aKj (gt (((r.map cE).flatten)[4]? = some (aB Bf)) (aL (E:=cE) (i:=2) (f:=0) (k:=2) (fun _=>rfl) h2 rfl) (gc (bB (E:=cE) (k:=2) (i:=(2:Int)) (fun _=>rfl) (by decide) (by first | decide | simp) h2) (gc (cN h1) gn)))))
theorem aYv{r:List Cel}(Ar:i=2)(h1:(aM k)≤2)(Ai:i'=2):aA Tp 0 aAv (iR k r i a0 a1 a2) (.exit 0) (iR k r i' a0 a1 a2):=by
 subst Ar;subst Ai;exact aA.fi (gI b8 [0,1]) [bF] (gc (bH h1) gn)
theorem aYw{r:List Cel}(Ar:i=3)(h1:(aM k)≤3)(Ai:i'=3):aA Tp 0 aAv (iR k r i a0 a1 a2) (.exit 0) (iR k r i' a0 a1 a2):=by
 subst Ar;subst Ai;exact aA.fi (gI b8 [0,1]) [bF] (gc (bH h1) gn)
def aK(k:Int)(r:List Cel)(j:Nat):Int:=if (j:Int)<aM k then ((r[j]?).getD (0,[])).1 else 0
theorem wC{r:List Cel}{j:Nat}(h:j<r.length):r[j]? = some (((r[j]?).getD (0,[])).1,((r[j]?).getD (0,[])).2):=by
 rw [Bw h];rfl
theorem eJ(k:Int)(r:List Cel)(h:aM k≤(r.length:Int)){base:Nat}:FV Tp 105 [.p (aB k),.p (.sl r.length ((r.map cE).flatten))] base (.p (.agg [aB (aK k r 0),aB (aK k r 1),aB (aK k r 2)])) []:=by
 have hk:aM k=1∨aM k=2∨aM k=3:=by unfold aM;split <;> (try split) <;> simp
 rcases hk with e | e | e
 ·have a0:aK k r 0=((r[0]?).getD (0,[])).1:=if_pos (by omega)
  have a1:aK k r 1=0:=if_neg (by omega)
  have a2:aK k r 2=0:=if_neg (by omega)
  rw [a0,a1,a2];exact aOs (.step (wB rfl (by omega) (wC (by omega)) rfl) (.exit (aYt rfl (by omega) rfl) (by simp)))
 ·have a0:aK k r 0=((r[0]?).getD (0,[])).1:=if_pos (by omega)
  have a1:aK k r 1=((r[1]?).getD (0,[])).1:=if_pos (by omega)
  have a2:aK k r 2=0:=if_neg (by omega)
  rw [a0,a1,a2];exact aOs (.step (wB rfl (by omega) (wC (by omega)) rfl) (.step (aEf rfl (by omega) (wC (by omega)) rfl) (.exit (aYv rfl (by omega) rfl) (by simp))))
 ·have a0:aK k r 0=((r[0]?).getD (0,[])).1:=if_pos (by omega)
  have a1:aK k r 1=((r[1]?).getD (0,[])).1:=if_pos (by omega)
  have a2:aK k r 2=((r[2]?).getD (0,[])).1:=if_pos (by omega)
  rw [a0,a1,a2];exact aOs (.step (wB rfl (by omega) (wC (by omega)) rfl) (.step (aEf rfl (by omega) (wC (by omega)) rfl) (.step (aYu rfl (by omega) (wC (by omega)) rfl) (.exit (aYw rfl (by omega) rfl) (by simp)))))
theorem aOt{r0:Bool}(Al:r0=(x != x)):FV Tp 215 [(pI x)] base (pB r0) []:=by
 subst Al;exact FV.fi func215 [] gn
theorem wD(x:Int){base:Nat}:FV Tp 215 [.p (aB x)] base (pB false) []:=by
 first | exact aOt | exact aOt rfl | exact aOt (by simp)
theorem bVt(h0:x<y):FV Tp 163 [(pI x),(pI y)] base (pI (-1)) []:=FV.fi func163 [.c (pB false) [],.c (pB false) [],bF,bF,bT] (gc (cN h0) (gf (gf (gc (fk 0 (wD y) rfl) (gc (fk 0 (wD x) rfl) gn)))))
theorem bVu(h0:y≤x)(h1:y<x):FV Tp 163 [(pI x),(pI y)] base (pI 1) []:=FV.fi func163 [.c (pB false) [],.c (pB false) [],bF,bF,bF,bT] (gc (cN h1) (gc (bH h0) (gf (gf (gc (fk 0 (wD y) rfl) (gc (fk 0 (wD x) rfl) gn))))))
theorem bVv(h0:y≤x)(h1:x≤y):FV Tp 163 [(pI x),(pI y)] base (pI 0) []:=FV.fi func163 [.c (pB false) [],.c (pB false) [],bF,bF,bF,bF] (gc (bH h1) (gc (bH h0) (gf (gf (gc (fk 0 (wD y) rfl) (gc (fk 0 (wD x) rfl) gn))))))
def iV(x y:Int):Int:=if x<y then -1 else if y<x then 1 else 0
theorem wE(x y:Int){base:Nat}:FV Tp 163 [.p (aB x),.p (aB y)] base (pI (iV x y)) []:=by
 unfold iV
 by_cases h:x<y
 ·rw [if_pos h];exact bVt h
 ·rw [if_neg h]
  by_cases h2:y<x
  ·rw [if_pos h2];exact bVu (by omega) h2
  ·rw [if_neg h2];exact bVv (by omega) (by omega)
def n3(a b c:Int)(i:Nat):Int:=if i=0 then a else if i=1 then b else c
def fE(a0 a1 a2 b0 b1 b2:Int)(i:Nat):St:=⟨fr 36 [(0,(.arr 0 0 3)),(1,(.arr 1 0 3)),(9,(.arr 0 0 3)),(10,(pI 3)),(11,(pI (i:Int)))],[some (.box 186 [(pI a0),(pI a1),(pI a2)]),some (.box 186 [(pI b0),(pI b1),(pI b2)])]⟩
theorem bVw(hl0:aF Tp 2 uW (fE a0 a1 a2 b0 b1 b2 0) (.exit 0) (fE a0 a1 a2 b0 b1 b2 Ap)):FMM Tp 178 [(.arr 0 0 3),(.arr 1 0 3)] [some (.box 186 [(pI a0),(pI a1),(pI a2)]),some (.box 186 [(pI b0),(pI b1),(pI b2)])] (pI 0) [some (.box 186 [(pI a0),(pI a1),(pI a2)]),some (.box 186 [(pI b0),(pI b1),(pI b2)])]:=FMM.fi 2 gE func178 [hl0.k 6 (gZ ca),bF] (gc bRe (gc hl0.code gn))
theorem aOu(hl0:aF Tp 2 uW (fE a0 a1 a2 b0 b1 b2 0) .ret (cJ (fE a0 a1 a2 b0 b1 b2 Ap) [(4,(pI (iV (n3 a0 a1 a2 Ap) (n3 b0 b1 b2 Ap))))]))(Al:r0=(iV (n3 a0 a1 a2 Ap) (n3 b0 b1 b2 Ap))):FMM Tp 178 [(.arr 0 0 3),(.arr 1 0 3)] [some (.box 186 [(pI a0),(pI a1),(pI a2)]),some (.box 186 [(pI b0),(pI b1),(pI b2)])] (pI r0) [some (.box 186 [(pI a0),(pI a1),(pI a2)]),some (.box 186 [(pI b0),(pI b1),(pI b2)])]:=by
 subst Al;exact FMM.fi 2 gE func178 [hl0.k 6 (gZ ca)] (gc hl0.code gn)
theorem aYx(Ar:i=0)(h1:(iV a0 b0)≠0)(Ai:i'=0):aA Tp 2 uW (fE a0 a1 a2 b0 b1 b2 i) .ret (cJ (fE a0 a1 a2 b0 b1 b2 i') [(4,(pI (iV a0 b0)))]):=by
 subst Ar;subst Ai;have k1:=fk 2 (wE a0 b0) rfl;exact aA.fi (gZ [2,2,5,4,12,19]) [bT,bF,k1.o,bT] (gc (eY h1) (gc k1 (gc aKh (gc bRf (gc aKh (gc bRg gn))))))
theorem wF(Ar:i=0)(h1:(iV a0 b0)=0)(Ai:i'=1):aA Tp 2 uW (fE a0 a1 a2 b0 b1 b2 i) .normal (fE a0 a1 a2 b0 b1 b2 i'):=by
 subst Ar;subst Ai;have k1:=fk 2 (wE a0 b0) rfl;exact aA.fi (gZ ca) [bT,bF,k1.o,bF] (gt (inR 1) (by show _∧_;omega) (gc (bL h1) (gc k1 (gc aKh (gc bRf (gc aKh (gc bRg gn)))))))
theorem aYy(Ar:i=1)(h1:(iV a1 b1)≠0)(Ai:i'=1):aA Tp 2 uW (fE a0 a1 a2 b0 b1 b2 i) .ret (cJ (fE a0 a1 a2 b0 b1 b2 i') [(4,(pI (iV a1 b1)))]):=by
 subst Ar;subst Ai;have k1:=fk 2 (wE a1 b1) rfl;exact aA.fi (gZ [2,2,5,4,12,19]) [bT,bF,k1.o,bT] (gc (eY h1) (gc k1 (gc aKi (gc bRh (gc aKi (gc bRi gn))))))
theorem aEg(Ar:i=1)(h1:(iV a1 b1)=0)(Ai:i'=2):aA Tp 2 uW (fE a0 a1 a2 b0 b1 b2 i) .normal (fE a0 a1 a2 b0 b1 b2 i'):=by
 subst Ar;subst Ai;have k1:=fk 2 (wE a1 b1) rfl;exact aA.fi (gZ ca) [bT,bF,k1.o,bF] (gt (inR 2) (by show _∧_;omega) (gc (bL h1) (gc k1 (gc aKi (gc bRh (gc aKi (gc bRi gn)))))))
theorem aYz(Ar:i=2)(h1:(iV a2 b2)≠0)(Ai:i'=2):aA Tp 2 uW (fE a0 a1 a2 b0 b1 b2 i) .ret (cJ (fE a0 a1 a2 b0 b1 b2 i') [(4,(pI (iV a2 b2)))]):=by
 subst Ar;subst Ai;have k1:=fk 2 (wE a2 b2) rfl;exact aA.fi (gZ [2,2,5,4,12,19]) [bT,bF,k1.o,bT] (gc (eY h1) (gc k1 (gc aKj (gc bRj (gc aKj (gc bRk gn))))))
theorem aZa(Ar:i=2)(h1:(iV a2 b2)=0)(Ai:i'=3):aA Tp 2 uW (fE a0 a1 a2 b0 b1 b2 i) .normal (fE a0 a1 a2 b0 b1 b2 i'):=by
 subst Ar;subst Ai;have k1:=fk 2 (wE a2 b2) rfl;exact aA.fi (gZ ca) [bT,bF,k1.o,bF] (gt (inR 3) (by show _∧_;omega) (gc (bL h1) (gc k1 (gc aKj (gc bRj (gc aKj (gc bRk gn)))))))
theorem aZb(Ar:i=3)(Ai:i'=3):aA Tp 2 uW (fE a0 a1 a2 b0 b1 b2 i) (.exit 0) (fE a0 a1 a2 b0 b1 b2 i'):=by
 subst Ar;subst Ai;exact aA.fi (gZ ca) [bF] (gc bRe gn)
def El(a0 a1 a2 b0 b1 b2:Int):Int:=if iV a0 b0≠0 then iV a0 b0 else if iV a1 b1≠0 then iV a1 b1 else iV a2 b2
theorem bVx(a0 a1 a2 b0 b1 b2:Int):FMM Tp 178 [.arr 0 0 3,.arr 1 0 3] [some (.box 186 [(pI a0),(pI a1),(pI a2)]),some (.box 186 [(pI b0),(pI b1),(pI b2)])] (pI (El a0 a1 a2 b0 b1 b2)) [some (.box 186 [(pI a0),(pI a1),(pI a2)]),some (.box 186 [(pI b0),(pI b1),(pI b2)])]:=by
 unfold El
 by_cases h0:iV a0 b0=0
 ·rw [if_neg (by simp [h0])]
  by_cases h1:iV a1 b1=0
  ·rw [if_neg (by simp [h1])]
   by_cases h2:iV a2 b2=0
   ·rw [h2]
    exact bVw (.step (wF rfl h0 rfl) (.step (aEg rfl h1 rfl) (.step (aZa rfl h2 rfl) (.exit (aZb rfl rfl) (by simp)))))
   ·exact aOu (Ap:=2) (.step (wF rfl h0 rfl) (.step (aEg rfl h1 rfl) (.exit (aYz rfl h2 rfl) (by simp)))) rfl
  ·rw [if_pos h1]
   exact aOu (Ap:=1) (.step (wF rfl h0 rfl) (.exit (aYy rfl h1 rfl) (by simp))) rfl
 ·rw [if_pos h0]
  exact aOu (Ap:=0) (.exit (aYx rfl h0 rfl) (by simp)) rfl
def bS(k:Int)(r t:List Cel):Int:=El (aK k r 0) (aK k r 1) (aK k r 2) (aK k t 0) (aK k t 1) (aK k t 2)
theorem bVy{r t:List Cel}(h0:aM k≤(r.length:Int))(h1:aM k≤(t.length:Int))(Al:r0=(El (aK k r 0) (aK k r 1) (aK k r 2) (aK k t 0) (aK k t 1) (aK k t 2))):FV Tp 92 [(pI k),(.p (.sl r.length ((r.map cE).flatten))),(.p (.sl t.length ((t.map cE).flatten)))] base (pI r0) []:=by
 subst Al;have k1:=fk 0 (eJ k r h0) rfl;have k2:=fk 0 (eJ k t h1) rfl;have k3:=mq [0,1] 2 (bVx (aK k r 0) (aK k r 1) (aK k r 2) (aK k t 0) (aK k t 1) (aK k t 2));exact FV.fi func92 [k1.o,k2.o,k3.o] (gc k3 (gt (0≤(0:Int)∧(0:Int)≤3∧(3:Int)≤3∧3≤maxLen) (by unfold maxLen;omega) (gt (0≤(0:Int)∧(0:Int)≤3∧(3:Int)≤3∧3≤maxLen) (by unfold maxLen;omega) (gc k2 (gc k1 gn)))))
end
section
variable {k r0:Int}{i Ap base:Nat}

noncomputable abbrev uU:Code:=sub (cd Tryz.f102) [1,1,1,0,1,0,0]
theorem mH(k:Int)(r t:List Cel)(h:aM k≤(r.length:Int))(h2:aM k≤(t.length:Int)){base:Nat}:FV Tp 92 [.p (aB k),.p (.sl r.length ((r.map cE).flatten)),.p (.sl t.length ((t.map cE).flatten))] base (pI (bS k r t)) []:=bVy h h2 rfl
def aEd(k:Int)(R:List (List Cel))(i:Nat):Int:=if bS k ((R[i-1]?).getD []) ((R[i]?).getD [])=0 then 5 else 4
def fD(k:Int)(R:List (List Cel))(i:Nat):St:=⟨fr 57 [(1,(.ptr 0 0)),(4,(pI (i:Int)))],[some (.box 26 [(pI k),(.p (.sl R.length (R.map aN)))])]⟩
theorem bVn{R:List (List Cel)}(h0:(within k 0 4)=false):FV Tp 102 [(.p (.agg [(aB k),(.sl R.length (R.map aN))]))] base (pI 1) []:=have k1:=fk 1 (oN k) rfl;FV.fi func102 [k1.o,bT] (gc (dB h0) (gc k1 gn))
theorem bVo{R:List (List Cel)}(h0:(within k 0 4)=true)(h1:(200:Int)<(R.length:Int)):FV Tp 102 [(.p (.agg [(aB k),(.sl R.length (R.map aN))]))] base (pI 2) []:=have k1:=fk 1 (oN k) rfl;FV.fi func102 ([k1.o,bF]++rT 5) (Cg (cN h1) (gc (aW h0) (gc k1 gn)))
section
variable{R:List (List Cel)}(h0:(within k 0 4)=true)(h1:(R.length:Int)≤200)(h2:R.length≤100000)
include h0 h1 h2
theorem bVp(h3:(R.all (Du))=false):FV Tp 102 [(.p (.agg [(aB k),(.sl R.length (R.map aN))]))] base (pI 2) []:=have k1:=fk 1 (oN k) rfl;have k2:=fk 1 (yE R h2) rfl;FV.fi func102 [k1.o,bF,bF,bF,bF,k2.o,bF,bF,bT] (gc (dB h3) (A4 (bH h1) (gc k2 (A2 (bH h1) (gc (aW h0) (gc k1 gn))))))
theorem bVq(h3:(R.all (Du))=true)(h4:(lI k R)≠0)(Al:r0=(lI k R)):FV Tp 102 [(.p (.agg [(aB k),(.sl R.length (R.map aN))]))] base (pI r0) []:=by
 subst Al;have k1:=fk 1 (oN k) rfl;have k2:=fk 1 (yE R h2) rfl;exact FV.fi func102 [k1.o,bF,bF,bF,bF,k2.o,bF,bF,bF,.c (pI (lI k R)) [],bT] (gc (eY h4) (gc (fk 1 (aGt k R h2) rfl) (gc (aW h3) (A4 (bH h1) (gc k2 (A2 (bH h1) (gc (aW h0) (gc k1 gn))))))))
theorem bVr(h3:(R.all (Du))=true)(h4:(lI k R)=0)(C3:aF Tp 0 uU (fD k R 1) (.exit 1) (fD k R Ap)):FV Tp 102 [(.p (.agg [(aB k),(.sl R.length (R.map aN))]))] base (pI 0) []:=have k1:=fk 1 (oN k) rfl;have k2:=fk 1 (yE R h2) rfl;FV.fi func102 [k1.o,bF,bF,bF,bF,k2.o,bF,bF,bF,.c (pI (lI k R)) [],bF,C3.k 4 (gI bu [0])] (gc C3.code (gc (bL h4) (gc (fk 1 (aGt k R h2) rfl) (gc (aW h3) (A4 (bH h1) (gc k2 (A2 (bH h1) (gc (aW h0) (gc k1 gn)))))))))
theorem bVs(h3:(R.all (Du))=true)(h4:(lI k R)=0)(C3:aF Tp 0 uU (fD k R 1) .ret (cJ (fD k R Ap) [(2,(pI (aEd k R Ap)))]))(Al:r0=(aEd k R Ap)):FV Tp 102 [(.p (.agg [(aB k),(.sl R.length (R.map aN))]))] base (pI r0) []:=by
 subst Al;have k1:=fk 1 (oN k) rfl;have k2:=fk 1 (yE R h2) rfl;exact FV.fi func102 [k1.o,bF,bF,bF,bF,k2.o,bF,bF,bF,.c (pI (lI k R)) [],bF,C3.k 4 (gI bu [0])] (gc C3.code (gc (bL h4) (gc (fk 1 (aGt k R h2) rfl) (gc (aW h3) (A4 (bH h1) (gc k2 (A2 (bH h1) (gc (aW h0) (gc k1 gn)))))))))
end
section
variable{R:List (List Cel)}{Ab Ay:List Cel}(h0:(i:Int)<(R.length:Int))(h1:inR ((i:Int)-1))(h2:R[((i:Int)-1).toNat]? = some Ab)(h3:0≤((i:Int)-1))(h4:R[i]? = some Ay)(h5:aM k≤(Ab.length:Int))(h6:aM k≤(Ay.length:Int))
include h0 h1 h2 h3 h4 h5 h6
theorem aYq(h7:(bS k Ab Ay)=0):aA Tp 0 uU (fD k R i) .ret (cJ (fD k R i) [(2,(pI 5))]):=have k1:=fk 1 (mH k Ab Ay h5 h6) rfl;aA.fi (gI [0,1,3,1,5,52] [0]) [bT,.x (.sl Ab.length ((Ab.map cE).flatten)),.x (.sl Ay.length ((Ay.map cE).flatten)),k1.o,bT] (gc (dC h7) (gc k1 (gc (atm aN h4) (gc (ixn aN h4) (gt ((R.map aN)[(((i:Int)-1).toNat*1)]? = some (.sl Ab.length ((Ab.map cE).flatten))) (sL (i:=((i:Int)-1).toNat) h2) (gc (sM (g:=aN) h3 h2) (gc h1 (g0 h0))))))))
theorem aYr(h7:(bS k Ab Ay)≠0)(h8:(0:Int)<(bS k Ab Ay)):aA Tp 0 uU (fD k R i) .ret (cJ (fD k R i) [(2,(pI 4))]):=have k1:=fk 1 (mH k Ab Ay h5 h6) rfl;aA.fi (gI [0,1,3,1,5,52] [0]) [bT,.x (.sl Ab.length ((Ab.map cE).flatten)),.x (.sl Ay.length ((Ay.map cE).flatten)),k1.o,bF,bT] (gc (cN h8) (gc (bJ h7) (gc k1 (gc (atm aN h4) (gc (ixn aN h4) (gt ((R.map aN)[(((i:Int)-1).toNat*1)]? = some (.sl Ab.length ((Ab.map cE).flatten))) (sL (i:=((i:Int)-1).toNat) h2) (gc (sM (g:=aN) h3 h2) (gc h1 (g0 h0)))))))))
theorem aYs{i':Nat}(h7:(bS k Ab Ay)≠0)(h8:(bS k Ab Ay)≤0)(h9:cp i)(Ai:i'=(i+1)):aA Tp 0 uU (fD k R i) .normal (fD k R i'):=by
 subst Ai;have k1:=fk 1 (mH k Ab Ay h5 h6) rfl;exact aA.fi (gI bu [0]) [bT,.x (.sl Ab.length ((Ab.map cE).flatten)),.x (.sl Ay.length ((Ay.map cE).flatten)),k1.o,bF,bF] (gc h9 (gc (bH h8) (gc (bJ h7) (gc k1 (gc (atm aN h4) (gc (ixn aN h4) (gt ((R.map aN)[(((i:Int)-1).toNat*1)]? = some (.sl Ab.length ((Ab.map cE).flatten))) (sL (i:=((i:Int)-1).toNat) h2) (gc (sM (g:=aN) h3 h2) (gc h1 (g0 h0))))))))))
end
theorem aEe{R:List (List Cel)}(h0:(R.length:Int)≤(i:Int)):aA Tp 0 uU (fD k R i) (.exit 1) (fD k R i):=aA.fi (gI bu [0]) [bF] (gc (bH h0) gn)
def qG(k:Int):List (List Cel)→Int
 | a::b::l=>if bS k a b=0 then 5 else if 0<bS k a b then 4 else qG k (b::l)
 | _=>0
def dZ(k:Int)(R:List (List Cel)):Int:=if within k 0 4=false then 1 else if 200<R.length∨R.all Du=false then 2 else if lI k R≠0 then lI k R else qG k R
theorem uV(k:Int):aM k≤((aJ k).length:Int):=by
 unfold aM aJ
 by_cases h0:k=0
 ·subst h0;decide
 ·by_cases h1:k=1
  ·subst h1;decide
  ·by_cases h2:k=2
   ·subst h2;decide
   ·by_cases h3:k=3
    ·subst h3;decide
    ·simp [h0,h1,h2,h3]
theorem aRy{k:Int}{x:List Cel}(h0:Du x=true)(h:fF k x=true):x.length=(aJ k).length:=by
 have h0:=of_decide_eq_true h0;unfold fF at h
 rw [aCj] at h
 rcases h with h | h
 ·have:=of_decide_eq_true h;omega
 ·have:=eq_of_beq h;omega
theorem bHi{k:Int}{x:List Cel}(h0:Du x=true)(h:fF k x=true):aM k≤(x.length:Int):=by
 rw [aRy h0 h];exact uV k
theorem aRz{k:Int}{R:List (List Cel)}(h:lI k R≠2):R.all (fF k)=true:=by
 cases q:R.all (fF k)
 ·exact absurd (by unfold lI;rw [if_pos q]) h
 ·rfl
theorem aKg{k:Int}{R:List (List Cel)}(hR:R.length≤200)(hk:∀ x∈R,aM k≤(x.length:Int)):∀ (l:List (List Cel)) (i:Nat),1≤i→R.drop (i-1)=l →
  (qG k l=0∧∃ j,aF Tp 0 uU (fD k R i) (.exit 1) (fD k R j))∨(qG k l≠0∧∃ j,qG k l=aEd k R j∧aF Tp 0 uU (fD k R i) .ret (cJ (fD k R j) [(2,(pI (aEd k R j)))]))
 | [],i,hi,hd=>by
  have hl:R.length≤i-1:=List.drop_eq_nil_iff.1 hd;exact .inl ⟨rfl,i,.exit (aEe (by omega)) (by simp)⟩
 | [a],i,hi,hd=>by
  have hl:=congrArg List.length hd;rw [xY,List.length_singleton] at hl
  exact .inl ⟨rfl,i,.exit (aEe (by omega)) (by simp)⟩
 | a::b::l,i,hi,hd=>by
  have hl:=congrArg List.length hd;rw [xY,Cb,Cb] at hl
  have ha:R[i-1]? = some a:=by
   have:=congrArg (fun l:List (List Cel)=>l[0]?) hd
   simpa using this
  have hb:R[i]? = some b:=by
   have:=congrArg (fun l:List (List Cel)=>l[1]?) hd
   rw [List.getElem?_drop] at this
   rw [show i-1+1=i by omega] at this
   simpa using this
  have Ez:R[((i:Int)-1).toNat]? = some a:=by rw [show ((i:Int)-1).toNat=i-1 by omega];exact ha
  have ka:=hk a (B0 ha);have kb:=hk b (B0 hb);have Fp:R.drop (i+1-1)=b::l:=by
   have:=congrArg List.tail hd;rw [List.tail_drop] at this
   rw [show i+1-1=i-1+1 by omega];exact this
  have hat:aEd k R i=if bS k a b=0 then 5 else 4:=by unfold aEd;rw [ha,hb];rfl
  unfold qG
  by_cases h0:bS k a b=0
  ·rw [if_pos h0]
   rw [if_pos h0] at hat
   refine .inr ⟨by decide,i,hat.symm,?_⟩
   rw [hat];exact .exit (aYq (by omega) (by show _∧_;omega) Ez (by omega) hb ka kb h0) (by simp)
  ·rw [if_neg h0]
   by_cases h1:0<bS k a b
   ·rw [if_pos h1]
    rw [if_neg h0] at hat
    refine .inr ⟨by decide,i,hat.symm,?_⟩
    rw [hat];exact .exit (aYr (by omega) (by show _∧_;omega) Ez (by omega) hb ka kb h0 h1) (by simp)
   ·rw [if_neg h1]
    have hs:aA Tp 0 uU (fD k R i) .normal (fD k R (i+1)):=aYs (by omega) (by show _∧_;omega) Ez (by omega) hb ka kb h0 (by omega) (aR (by omega)) rfl
    rcases aKg hR hk (b::l) (i+1) (by omega) Fp with ⟨q,j,L⟩ | ⟨q,j,q2,L⟩
    ·exact .inl ⟨q,j,.step hs L⟩
    ·exact .inr ⟨q,j,q2,.step hs L⟩
theorem iQ(k:Int)(R:List (List Cel)){base:Nat}:FV Tp 102 [.p (.agg [aB k,bZ R])] base (pI (dZ k R)) []:=by
 unfold dZ;cases hk:within k 0 4
 ·rw [if_pos rfl];exact bVn hk
 ·rw [if_neg (by simp)]
  by_cases hl:200<R.length
  ·rw [if_pos (.inl hl)];exact bVo hk (by omega)
  ·cases hn:R.all Du
   ·rw [if_pos (.inr rfl)];exact bVp hk (by omega) (by omega) hn
   ·rw [if_neg (by simp [hl])]
    by_cases hc:lI k R=0
    ·rw [if_neg (by simp [hc])]
     have hf:=aRz (k:=k) (R:=R) (by rw [hc];decide)
     rw [iD] at hf
     have Lw:=hn;rw [iD] at Lw
     rcases aKg (k:=k) (R:=R) (by omega) (fun x hx=>bHi (Lw x hx) (hf x hx)) R 1 (by omega) rfl with ⟨q,j,L⟩ | ⟨q,j,q2,L⟩
     ·rw [q];exact bVr hk (by omega) (by omega) hn hc L
     ·rw [q2];exact bVs hk (by omega) (by omega) hn hc L rfl
    ·rw [if_pos hc];exact bVq hk (by omega) (by omega) hn hc rfl
end
end KV
end Go.Proofs
section
namespace Go.Proofs
open Go.RowKit
namespace KV
open Tryz
theorem aSn{w:World}{b o:Nat}{v:Value}(h:w.cell? ⟨b,o,none⟩=some v):b<w.heap.size:=by
 unfold World.cell? at h
 cases hb:w.heap[b]? with
 | none=>simp [hb] at h
 | some x=>exact (mF.1 hb).1
theorem aKp{F:Nat→Prop}{w:World}{l:List UInt8}{u:Value}(h:cS F w (aD l) u):u = .string ⟨l.toArray⟩:=by cases h;rfl
theorem bOm(l:List (List UInt8))(sep:List UInt8)(h1:l.length≤140737488355328)(h2:(Lib.join l sep).length≤140737488355328){base:Nat}:FV Tp 50 [.p (.sl l.length (l.map aD)),.p (aD sep)] base (.p (aD (Lib.join l sep))) []:=FV.ofc rfl fun C w us hus hM=>by
 cases hus with | cons _ u _ k h hr =>
 cases hr with | cons _ u2 _ k2 Ng Dm =>
 cases Dm;cases Ng with | p _ _ Ng =>
 obtain rfl:=aKp Ng;cases h with | p _ _ h =>
 cases h with | sl _ _ p cap vs q1 q2 q3 q4 q5 =>
 by_cases h0:l=[]
 ·subst h0
  refine (Tryz.strings_Join_none p cap ⟨sep.toArray⟩ w).mono ?_;rintro e w' ⟨rfl,rfl⟩;exact ⟨_,rfl,Below.refl _ _,.p _ _ (.v _)⟩
 ·have hl:0<l.length:=List.length_pos_iff.2 h0
  obtain ⟨b,o,hp,_,Q6⟩:=q3 0 (by simpa using hl)
  subst hp;have hlen:l.length=(l.map fun x=>(⟨x.toArray⟩:ByteArray)).length:=by simp
  have ex:(l.map fun x=>(⟨x.toArray⟩:ByteArray)).map (·.data.toList)=l:=by simp [aAk,Function.comp_def]
  have:=Tryz.strings_Join b o cap (l.map fun x=>(⟨x.toArray⟩:ByteArray)) ⟨sep.toArray⟩ w (fun j x hx=>by
    rw [rV] at hx
    obtain ⟨y,hy,rfl⟩:=C7.1 hx;have hj:=(Ci.1 hy).1;obtain ⟨b',o',hp,_,hc⟩:=q3 j (by simpa using hj)
    cases hp;rw [hc];have hr:=q4 j (by simpa using hj)
    rw [gL] at hr
    have e:l[j]=y:=(Ci.1 hy).2;rw [e] at hr
    exact congrArg some (aKp hr)) (aSn Q6) (by simpa using h1) (by simpa using q1) (by rw [ex];exact h2)
  rw [ex,kI] at this
  refine this.mono ?_;rintro e w' ⟨rfl,hb⟩;exact ⟨_,rfl,hb,.p _ _ (.v _)⟩
end KV
end Go.Proofs
end
namespace Go.Proofs
namespace KV
open Tryz
section
variable {k Bm:Int}{i j j' Ap base:Nat}

noncomputable abbrev oZ:Code:=pS (cd Tryz.f28) 5 [0,1,0,0]
noncomputable abbrev aEc:Code:=pS (cd Tryz.f28) 5 [0,1,0,0,1,1,0,0,1,1,0,1,0,0]
theorem bQz:0≤(0:Int)∧(0:Int)<5:=by first | decide | simp
theorem bRa:0≤(1:Int)∧(1:Int)<5:=by first | decide | simp
theorem bRb:0≤(2:Int)∧(2:Int)<5:=by first | decide | simp
theorem bRc:0≤(3:Int)∧(3:Int)<5:=by first | decide | simp
theorem bRd:0≤(4:Int)∧(4:Int)<5:=by first | decide | simp
def stE(s:List UInt8):List PV:=[aD s]
theorem dY:∀ l:List (List UInt8),(l.map stE).flatten=l.map aD
 | []=>rfl
 | s::l=>by rw [gS,vW,dY l];rfl
theorem aKf(l:List (List UInt8))(sep:List UInt8)(h1:l.length≤140737488355328)(h2:(Lib.join l sep).length≤140737488355328){base:Nat}:FV Tp 50 [.p (.sl l.length ((l.map stE).flatten)),.p (aD sep)] base (.p (aD (Lib.join l sep))) []:=by rw [dY];exact bOm l sep h1 h2
theorem bVc{l:List (List UInt8)}(h0:l.length≤140737488355328)(h1:(Lib.join l ([32]:List UInt8)).length≤140737488355328)(h2:(Lib.join l ([32]:List UInt8)).length+([10]:List UInt8).length≤4611686018427387904):FV Tp 118 [(.p (.sl l.length ((l.map stE).flatten)))] base (.p (aD ((Lib.join l ([32]:List UInt8))++([10]:List UInt8)))) []:=have k1:=fk 0 (aKf l ([32]:List UInt8) h0 h1) rfl;FV.fi func118 [k1.o] (gc h2 (gc k1 gn))
def lnM(l:List (List UInt8)):List UInt8:=Lib.join l [32]++[10]
theorem eI(l:List (List UInt8))(h1:l.length≤1000000)(h2:(Lib.join l [32]).length≤1000000){base:Nat}:FV Tp 118 [.p (.sl l.length ((l.map stE).flatten))] base (.p (aD (lnM l))) []:=bVc (by omega) (by omega) (by simp;omega)
def cK(k:Int)(R:List (List Cel))(i:Nat)(o:List UInt8):St:=⟨fr 81 [(2,(.p (aD ([]:List UInt8)))),(3,(pI 0)),(5,(.p (aD o))),(6,(.p (bD (aJ k)))),(8,(.ptr 0 0)),(38,(.p (.sl R.length (R.map aN)))),(39,(pI (R.length:Int))),(40,(pI (i:Int)))],[some (.box 214 [(.fn 224 [] [(.rp [(PV.fn 188 [] [])] 0)]),(.fn 225 [] [(.rp [(PV.fn 120 [] [])] 0)]),(.fn 226 [] [(.rp [(aB 999999)] 0)]),(.fn 224 [] [(.rp [(PV.fn 39 [] [])] 0)]),(.fn 225 [] [(.rp [(PV.fn 189 [] [])] 0)]),(.fn 226 [] [(.rp [(aB 360000)] 0)]),(.fn 227 [] [(.rp [(PV.fn 191 [] [])] 0)]),(.fn 228 [] []),(.fn 229 [] [(.rp [(PV.fn 191 [] [])] 0)]),(.fn 227 [] [(.rp [(PV.fn 192 [] [])] 0)]),(.fn 228 [] []),(.fn 229 [] [(.rp [(PV.fn 192 [] [])] 0)])])]⟩
theorem bVd{R:List (List Cel)}{r0:Int}(h0:(dZ k R)≠0)(Al:r0=(dZ k R)):FV Tp 28 [(.p (.agg [(aB k),(.sl R.length (R.map aN))]))] base (.tup [(.p (aD ([]:List UInt8))),(pI r0)]) []:=by
 subst Al;exact FV.fi func28 [.c (pI (dZ k R)) [],bT] (gc (eY h0) (gc (fk 1 (iQ k R) rfl) gn))
section
variable{R:List (List Cel)}{Ak:List UInt8}(h0:(dZ k R)=0)(Cy:k=0)(h2:inR (R.length:Int))(h3:([([107,108,105,115,116,101,114]:List UInt8),([115,116,97,114,116,115]:List UInt8),(Lib.itoa (R.length:Int))]:List (List UInt8)).length≤1000000)(h4:(Lib.join ([([107,108,105,115,116,101,114]:List UInt8),([115,116,97,114,116,115]:List UInt8),(Lib.itoa (R.length:Int))]:List (List UInt8)) [32]).length≤1000000)(C3:aF Tp 0 oZ (cK k R 0 (lnM ([([107,108,105,115,116,101,114]:List UInt8),([115,116,97,114,116,115]:List UInt8),(Lib.itoa (R.length:Int))]:List (List UInt8)))) (.exit 0) (cK k R Ap Ak))
include h0 Cy h2 h3 h4 C3
theorem bVe(h6:Ak.length≤65536)(h7:inR (bQ Ak))(h8:([([115,117,109]:List UInt8),(Lib.itoa (bQ Ak))]:List (List UInt8)).length≤1000000)(h9:(Lib.join ([([115,117,109]:List UInt8),(Lib.itoa (bQ Ak))]:List (List UInt8)) [32]).length≤1000000)(A9:Ak.length+(lnM ([([115,117,109]:List UInt8),(Lib.itoa (bQ Ak))]:List (List UInt8))).length≤4611686018427387904):FV Tp 28 [(.p (.agg [(aB k),(.sl R.length (R.map aN))]))] base (.tup [(.p (aD (Ak++(lnM ([([115,117,109]:List UInt8),(Lib.itoa (bQ Ak))]:List (List UInt8)))))),(pI 0)]) []:=by
 subst Cy;have k1:=fk 1 (iQ 0 R) rfl;have k2:=fk 1 (kJ) rfl;have k3:=fk 10 (dH (R.length:Int) h2) rfl;have k4:=fk 19 (eT 0) rfl;have k5:=fk 19 (eS) rfl;have k6:=fk 1 (mA Ak h6) rfl;have k7:=fk 1 (dH (bQ Ak) h7) rfl;exact FV.fi func28 [k1.o,bF,k2.o,k3.o,.c (.p (aD (lnM ([([107,108,105,115,116,101,114]:List UInt8),([115,116,97,114,116,115]:List UInt8),(Lib.itoa (R.length:Int))]:List (List UInt8))))) [(18,.dead)],k4.o,k5.o,.k 4 (gI aw [19]) (.exit 0) (cK 0 R Ap Ak),k6.o,k7.o,.c (.p (aD (lnM ([([115,117,109]:List UInt8),(Lib.itoa (bQ Ak))]:List (List UInt8))))) [(1,.dead)]] (gc A9 (gt (FC Tp 118 [(.own 1)] [(1,(.row 9 2 [(aD ([115,117,109]:List UInt8)),(aD (Lib.itoa (bQ Ak)))]))] 2 (.p (aD (lnM ([([115,117,109]:List UInt8),(Lib.itoa (bQ Ak))]:List (List UInt8))))) [(1,.dead)]) (FV.close (ids:=[1]) (Am:=[(.p (.sl 2 [(aD ([115,117,109]:List UInt8)),(aD (Lib.itoa (bQ Ak)))]))]) (eI ([([115,117,109]:List UInt8),(Lib.itoa (bQ Ak))]:List (List UInt8)) h8 h9) (by kernel_rfl)) (gc k7 (gc k6 (gc C3.code (gc k5 (gc k4 (gt (FC Tp 118 [(.own 18)] [(18,(.row 9 3 [(aD ([107,108,105,115,116,101,114]:List UInt8)),(aD ([115,116,97,114,116,115]:List UInt8)),(aD (Lib.itoa (R.length:Int)))]))] 19 (.p (aD (lnM ([([107,108,105,115,116,101,114]:List UInt8),([115,116,97,114,116,115]:List UInt8),(Lib.itoa (R.length:Int))]:List (List UInt8))))) [(18,.dead)]) (FV.close (ids:=[18]) (Am:=[(.p (.sl 3 [(aD ([107,108,105,115,116,101,114]:List UInt8)),(aD ([115,116,97,114,116,115]:List UInt8)),(aD (Lib.itoa (R.length:Int)))]))]) (eI ([([107,108,105,115,116,101,114]:List UInt8),([115,116,97,114,116,115]:List UInt8),(Lib.itoa (R.length:Int))]:List (List UInt8)) h3 h4) (by kernel_rfl)) (gc k3 (gc bQz (gc k2 (gc (bL h0) (gc k1 gn)))))))))))))
theorem bVf(h6:65536<Ak.length)(h7:inR 0)(h8:([([115,117,109]:List UInt8),(Lib.itoa 0)]:List (List UInt8)).length≤1000000)(h9:(Lib.join ([([115,117,109]:List UInt8),(Lib.itoa 0)]:List (List UInt8)) [32]).length≤1000000)(A9:Ak.length+(lnM ([([115,117,109]:List UInt8),(Lib.itoa 0)]:List (List UInt8))).length≤4611686018427387904):FV Tp 28 [(.p (.agg [(aB k),(.sl R.length (R.map aN))]))] base (.tup [(.p (aD (Ak++(lnM ([([115,117,109]:List UInt8),(Lib.itoa 0)]:List (List UInt8)))))),(pI 0)]) []:=by
 subst Cy;have k1:=fk 1 (iQ 0 R) rfl;have k2:=fk 1 (kJ) rfl;have k3:=fk 10 (dH (R.length:Int) h2) rfl;have k4:=fk 19 (eT 0) rfl;have k5:=fk 19 (eS) rfl;have k6:=fk 1 (qH Ak h6) rfl;have k7:=fk 1 (dH 0 h7) rfl;exact FV.fi func28 [k1.o,bF,k2.o,k3.o,.c (.p (aD (lnM ([([107,108,105,115,116,101,114]:List UInt8),([115,116,97,114,116,115]:List UInt8),(Lib.itoa (R.length:Int))]:List (List UInt8))))) [(18,.dead)],k4.o,k5.o,.k 4 (gI aw [19]) (.exit 0) (cK 0 R Ap Ak),k6.o,k7.o,.c (.p (aD (lnM ([([115,117,109]:List UInt8),(Lib.itoa 0)]:List (List UInt8))))) [(1,.dead)]] (gc A9 (gt (FC Tp 118 [(.own 1)] [(1,(.row 9 2 [(aD ([115,117,109]:List UInt8)),(aD (Lib.itoa 0))]))] 2 (.p (aD (lnM ([([115,117,109]:List UInt8),(Lib.itoa 0)]:List (List UInt8))))) [(1,.dead)]) (FV.close (ids:=[1]) (Am:=[(.p (.sl 2 [(aD ([115,117,109]:List UInt8)),(aD (Lib.itoa 0))]))]) (eI ([([115,117,109]:List UInt8),(Lib.itoa 0)]:List (List UInt8)) h8 h9) (by kernel_rfl)) (gc k7 (gc k6 (gc C3.code (gc k5 (gc k4 (gt (FC Tp 118 [(.own 18)] [(18,(.row 9 3 [(aD ([107,108,105,115,116,101,114]:List UInt8)),(aD ([115,116,97,114,116,115]:List UInt8)),(aD (Lib.itoa (R.length:Int)))]))] 19 (.p (aD (lnM ([([107,108,105,115,116,101,114]:List UInt8),([115,116,97,114,116,115]:List UInt8),(Lib.itoa (R.length:Int))]:List (List UInt8))))) [(18,.dead)]) (FV.close (ids:=[18]) (Am:=[(.p (.sl 3 [(aD ([107,108,105,115,116,101,114]:List UInt8)),(aD ([115,116,97,114,116,115]:List UInt8)),(aD (Lib.itoa (R.length:Int)))]))]) (eI ([([107,108,105,115,116,101,114]:List UInt8),([115,116,97,114,116,115]:List UInt8),(Lib.itoa (R.length:Int))]:List (List UInt8)) h3 h4) (by kernel_rfl)) (gc k3 (gc bQz (gc k2 (gc (bL h0) (gc k1 gn)))))))))))))
end
section
variable{R:List (List Cel)}{Ak:List UInt8}(h0:(dZ k R)=0)(Cy:k=1)(h2:inR (R.length:Int))(h3:([([107,108,105,115,116,101,114]:List UInt8),([112,97,115,115,101,115]:List UInt8),(Lib.itoa (R.length:Int))]:List (List UInt8)).length≤1000000)(h4:(Lib.join ([([107,108,105,115,116,101,114]:List UInt8),([112,97,115,115,101,115]:List UInt8),(Lib.itoa (R.length:Int))]:List (List UInt8)) [32]).length≤1000000)(C3:aF Tp 0 oZ (cK k R 0 (lnM ([([107,108,105,115,116,101,114]:List UInt8),([112,97,115,115,101,115]:List UInt8),(Lib.itoa (R.length:Int))]:List (List UInt8)))) (.exit 0) (cK k R Ap Ak))
include h0 Cy h2 h3 h4 C3
theorem bVg(h6:Ak.length≤65536)(h7:inR (bQ Ak))(h8:([([115,117,109]:List UInt8),(Lib.itoa (bQ Ak))]:List (List UInt8)).length≤1000000)(h9:(Lib.join ([([115,117,109]:List UInt8),(Lib.itoa (bQ Ak))]:List (List UInt8)) [32]).length≤1000000)(A9:Ak.length+(lnM ([([115,117,109]:List UInt8),(Lib.itoa (bQ Ak))]:List (List UInt8))).length≤4611686018427387904):FV Tp 28 [(.p (.agg [(aB k),(.sl R.length (R.map aN))]))] base (.tup [(.p (aD (Ak++(lnM ([([115,117,109]:List UInt8),(Lib.itoa (bQ Ak))]:List (List UInt8)))))),(pI 0)]) []:=by
 subst Cy;have k1:=fk 1 (iQ 1 R) rfl;have k2:=fk 1 (kJ) rfl;have k3:=fk 10 (dH (R.length:Int) h2) rfl;have k4:=fk 19 (eT 1) rfl;have k5:=fk 19 (eS) rfl;have k6:=fk 1 (mA Ak h6) rfl;have k7:=fk 1 (dH (bQ Ak) h7) rfl;exact FV.fi func28 [k1.o,bF,k2.o,k3.o,.c (.p (aD (lnM ([([107,108,105,115,116,101,114]:List UInt8),([112,97,115,115,101,115]:List UInt8),(Lib.itoa (R.length:Int))]:List (List UInt8))))) [(18,.dead)],k4.o,k5.o,.k 4 (gI aw [19]) (.exit 0) (cK 1 R Ap Ak),k6.o,k7.o,.c (.p (aD (lnM ([([115,117,109]:List UInt8),(Lib.itoa (bQ Ak))]:List (List UInt8))))) [(1,.dead)]] (gc A9 (gt (FC Tp 118 [(.own 1)] [(1,(.row 9 2 [(aD ([115,117,109]:List UInt8)),(aD (Lib.itoa (bQ Ak)))]))] 2 (.p (aD (lnM ([([115,117,109]:List UInt8),(Lib.itoa (bQ Ak))]:List (List UInt8))))) [(1,.dead)]) (FV.close (ids:=[1]) (Am:=[(.p (.sl 2 [(aD ([115,117,109]:List UInt8)),(aD (Lib.itoa (bQ Ak)))]))]) (eI ([([115,117,109]:List UInt8),(Lib.itoa (bQ Ak))]:List (List UInt8)) h8 h9) (by kernel_rfl)) (gc k7 (gc k6 (gc C3.code (gc k5 (gc k4 (gt (FC Tp 118 [(.own 18)] [(18,(.row 9 3 [(aD ([107,108,105,115,116,101,114]:List UInt8)),(aD ([112,97,115,115,101,115]:List UInt8)),(aD (Lib.itoa (R.length:Int)))]))] 19 (.p (aD (lnM ([([107,108,105,115,116,101,114]:List UInt8),([112,97,115,115,101,115]:List UInt8),(Lib.itoa (R.length:Int))]:List (List UInt8))))) [(18,.dead)]) (FV.close (ids:=[18]) (Am:=[(.p (.sl 3 [(aD ([107,108,105,115,116,101,114]:List UInt8)),(aD ([112,97,115,115,101,115]:List UInt8)),(aD (Lib.itoa (R.length:Int)))]))]) (eI ([([107,108,105,115,116,101,114]:List UInt8),([112,97,115,115,101,115]:List UInt8),(Lib.itoa (R.length:Int))]:List (List UInt8)) h3 h4) (by kernel_rfl)) (gc k3 (gc bRa (gc k2 (gc (bL h0) (gc k1 gn)))))))))))))
theorem bVh(h6:65536<Ak.length)(h7:inR 0)(h8:([([115,117,109]:List UInt8),(Lib.itoa 0)]:List (List UInt8)).length≤1000000)(h9:(Lib.join ([([115,117,109]:List UInt8),(Lib.itoa 0)]:List (List UInt8)) [32]).length≤1000000)(A9:Ak.length+(lnM ([([115,117,109]:List UInt8),(Lib.itoa 0)]:List (List UInt8))).length≤4611686018427387904):FV Tp 28 [(.p (.agg [(aB k),(.sl R.length (R.map aN))]))] base (.tup [(.p (aD (Ak++(lnM ([([115,117,109]:List UInt8),(Lib.itoa 0)]:List (List UInt8)))))),(pI 0)]) []:=by
 subst Cy;have k1:=fk 1 (iQ 1 R) rfl;have k2:=fk 1 (kJ) rfl;have k3:=fk 10 (dH (R.length:Int) h2) rfl;have k4:=fk 19 (eT 1) rfl;have k5:=fk 19 (eS) rfl;have k6:=fk 1 (qH Ak h6) rfl;have k7:=fk 1 (dH 0 h7) rfl;exact FV.fi func28 [k1.o,bF,k2.o,k3.o,.c (.p (aD (lnM ([([107,108,105,115,116,101,114]:List UInt8),([112,97,115,115,101,115]:List UInt8),(Lib.itoa (R.length:Int))]:List (List UInt8))))) [(18,.dead)],k4.o,k5.o,.k 4 (gI aw [19]) (.exit 0) (cK 1 R Ap Ak),k6.o,k7.o,.c (.p (aD (lnM ([([115,117,109]:List UInt8),(Lib.itoa 0)]:List (List UInt8))))) [(1,.dead)]] (gc A9 (gt (FC Tp 118 [(.own 1)] [(1,(.row 9 2 [(aD ([115,117,109]:List UInt8)),(aD (Lib.itoa 0))]))] 2 (.p (aD (lnM ([([115,117,109]:List UInt8),(Lib.itoa 0)]:List (List UInt8))))) [(1,.dead)]) (FV.close (ids:=[1]) (Am:=[(.p (.sl 2 [(aD ([115,117,109]:List UInt8)),(aD (Lib.itoa 0))]))]) (eI ([([115,117,109]:List UInt8),(Lib.itoa 0)]:List (List UInt8)) h8 h9) (by kernel_rfl)) (gc k7 (gc k6 (gc C3.code (gc k5 (gc k4 (gt (FC Tp 118 [(.own 18)] [(18,(.row 9 3 [(aD ([107,108,105,115,116,101,114]:List UInt8)),(aD ([112,97,115,115,101,115]:List UInt8)),(aD (Lib.itoa (R.length:Int)))]))] 19 (.p (aD (lnM ([([107,108,105,115,116,101,114]:List UInt8),([112,97,115,115,101,115]:List UInt8),(Lib.itoa (R.length:Int))]:List (List UInt8))))) [(18,.dead)]) (FV.close (ids:=[18]) (Am:=[(.p (.sl 3 [(aD ([107,108,105,115,116,101,114]:List UInt8)),(aD ([112,97,115,115,101,115]:List UInt8)),(aD (Lib.itoa (R.length:Int)))]))]) (eI ([([107,108,105,115,116,101,114]:List UInt8),([112,97,115,115,101,115]:List UInt8),(Lib.itoa (R.length:Int))]:List (List UInt8)) h3 h4) (by kernel_rfl)) (gc k3 (gc bRa (gc k2 (gc (bL h0) (gc k1 gn)))))))))))))
end
section
variable{R:List (List Cel)}{Ak:List UInt8}(h0:(dZ k R)=0)(Cy:k=2)(h2:inR (R.length:Int))(h3:([([107,108,105,115,116,101,114]:List UInt8),([116,97,114,103,101,116,115]:List UInt8),(Lib.itoa (R.length:Int))]:List (List UInt8)).length≤1000000)(h4:(Lib.join ([([107,108,105,115,116,101,114]:List UInt8),([116,97,114,103,101,116,115]:List UInt8),(Lib.itoa (R.length:Int))]:List (List UInt8)) [32]).length≤1000000)(C3:aF Tp 0 oZ (cK k R 0 (lnM ([([107,108,105,115,116,101,114]:List UInt8),([116,97,114,103,101,116,115]:List UInt8),(Lib.itoa (R.length:Int))]:List (List UInt8)))) (.exit 0) (cK k R Ap Ak))
include h0 Cy h2 h3 h4 C3
theorem bVi(h6:Ak.length≤65536)(h7:inR (bQ Ak))(h8:([([115,117,109]:List UInt8),(Lib.itoa (bQ Ak))]:List (List UInt8)).length≤1000000)(h9:(Lib.join ([([115,117,109]:List UInt8),(Lib.itoa (bQ Ak))]:List (List UInt8)) [32]).length≤1000000)(A9:Ak.length+(lnM ([([115,117,109]:List UInt8),(Lib.itoa (bQ Ak))]:List (List UInt8))).length≤4611686018427387904):FV Tp 28 [(.p (.agg [(aB k),(.sl R.length (R.map aN))]))] base (.tup [(.p (aD (Ak++(lnM ([([115,117,109]:List UInt8),(Lib.itoa (bQ Ak))]:List (List UInt8)))))),(pI 0)]) []:=by
 subst Cy;have k1:=fk 1 (iQ 2 R) rfl;have k2:=fk 1 (kJ) rfl;have k3:=fk 10 (dH (R.length:Int) h2) rfl;have k4:=fk 19 (eT 2) rfl;have k5:=fk 19 (eS) rfl;have k6:=fk 1 (mA Ak h6) rfl;have k7:=fk 1 (dH (bQ Ak) h7) rfl;exact FV.fi func28 [k1.o,bF,k2.o,k3.o,.c (.p (aD (lnM ([([107,108,105,115,116,101,114]:List UInt8),([116,97,114,103,101,116,115]:List UInt8),(Lib.itoa (R.length:Int))]:List (List UInt8))))) [(18,.dead)],k4.o,k5.o,.k 4 (gI aw [19]) (.exit 0) (cK 2 R Ap Ak),k6.o,k7.o,.c (.p (aD (lnM ([([115,117,109]:List UInt8),(Lib.itoa (bQ Ak))]:List (List UInt8))))) [(1,.dead)]] (gc A9 (gt (FC Tp 118 [(.own 1)] [(1,(.row 9 2 [(aD ([115,117,109]:List UInt8)),(aD (Lib.itoa (bQ Ak)))]))] 2 (.p (aD (lnM ([([115,117,109]:List UInt8),(Lib.itoa (bQ Ak))]:List (List UInt8))))) [(1,.dead)]) (FV.close (ids:=[1]) (Am:=[(.p (.sl 2 [(aD ([115,117,109]:List UInt8)),(aD (Lib.itoa (bQ Ak)))]))]) (eI ([([115,117,109]:List UInt8),(Lib.itoa (bQ Ak))]:List (List UInt8)) h8 h9) (by kernel_rfl)) (gc k7 (gc k6 (gc C3.code (gc k5 (gc k4 (gt (FC Tp 118 [(.own 18)] [(18,(.row 9 3 [(aD ([107,108,105,115,116,101,114]:List UInt8)),(aD ([116,97,114,103,101,116,115]:List UInt8)),(aD (Lib.itoa (R.length:Int)))]))] 19 (.p (aD (lnM ([([107,108,105,115,116,101,114]:List UInt8),([116,97,114,103,101,116,115]:List UInt8),(Lib.itoa (R.length:Int))]:List (List UInt8))))) [(18,.dead)]) (FV.close (ids:=[18]) (Am:=[(.p (.sl 3 [(aD ([107,108,105,115,116,101,114]:List UInt8)),(aD ([116,97,114,103,101,116,115]:List UInt8)),(aD (Lib.itoa (R.length:Int)))]))]) (eI ([([107,108,105,115,116,101,114]:List UInt8),([116,97,114,103,101,116,115]:List UInt8),(Lib.itoa (R.length:Int))]:List (List UInt8)) h3 h4) (by kernel_rfl)) (gc k3 (gc bRb (gc k2 (gc (bL h0) (gc k1 gn)))))))))))))
theorem bVj(h6:65536<Ak.length)(h7:inR 0)(h8:([([115,117,109]:List UInt8),(Lib.itoa 0)]:List (List UInt8)).length≤1000000)(h9:(Lib.join ([([115,117,109]:List UInt8),(Lib.itoa 0)]:List (List UInt8)) [32]).length≤1000000)(A9:Ak.length+(lnM ([([115,117,109]:List UInt8),(Lib.itoa 0)]:List (List UInt8))).length≤4611686018427387904):FV Tp 28 [(.p (.agg [(aB k),(.sl R.length (R.map aN))]))] base (.tup [(.p (aD (Ak++(lnM ([([115,117,109]:List UInt8),(Lib.itoa 0)]:List (List UInt8)))))),(pI 0)]) []:=by
 subst Cy;have k1:=fk 1 (iQ 2 R) rfl;have k2:=fk 1 (kJ) rfl;have k3:=fk 10 (dH (R.length:Int) h2) rfl;have k4:=fk 19 (eT 2) rfl;have k5:=fk 19 (eS) rfl;have k6:=fk 1 (qH Ak h6) rfl;have k7:=fk 1 (dH 0 h7) rfl;exact FV.fi func28 [k1.o,bF,k2.o,k3.o,.c (.p (aD (lnM ([([107,108,105,115,116,101,114]:List UInt8),([116,97,114,103,101,116,115]:List UInt8),(Lib.itoa (R.length:Int))]:List (List UInt8))))) [(18,.dead)],k4.o,k5.o,.k 4 (gI aw [19]) (.exit 0) (cK 2 R Ap Ak),k6.o,k7.o,.c (.p (aD (lnM ([([115,117,109]:List UInt8),(Lib.itoa 0)]:List (List UInt8))))) [(1,.dead)]] (gc A9 (gt (FC Tp 118 [(.own 1)] [(1,(.row 9 2 [(aD ([115,117,109]:List UInt8)),(aD (Lib.itoa 0))]))] 2 (.p (aD (lnM ([([115,117,109]:List UInt8),(Lib.itoa 0)]:List (List UInt8))))) [(1,.dead)]) (FV.close (ids:=[1]) (Am:=[(.p (.sl 2 [(aD ([115,117,109]:List UInt8)),(aD (Lib.itoa 0))]))]) (eI ([([115,117,109]:List UInt8),(Lib.itoa 0)]:List (List UInt8)) h8 h9) (by kernel_rfl)) (gc k7 (gc k6 (gc C3.code (gc k5 (gc k4 (gt (FC Tp 118 [(.own 18)] [(18,(.row 9 3 [(aD ([107,108,105,115,116,101,114]:List UInt8)),(aD ([116,97,114,103,101,116,115]:List UInt8)),(aD (Lib.itoa (R.length:Int)))]))] 19 (.p (aD (lnM ([([107,108,105,115,116,101,114]:List UInt8),([116,97,114,103,101,116,115]:List UInt8),(Lib.itoa (R.length:Int))]:List (List UInt8))))) [(18,.dead)]) (FV.close (ids:=[18]) (Am:=[(.p (.sl 3 [(aD ([107,108,105,115,116,101,114]:List UInt8)),(aD ([116,97,114,103,101,116,115]:List UInt8)),(aD (Lib.itoa (R.length:Int)))]))]) (eI ([([107,108,105,115,116,101,114]:List UInt8),([116,97,114,103,101,116,115]:List UInt8),(Lib.itoa (R.length:Int))]:List (List UInt8)) h3 h4) (by kernel_rfl)) (gc k3 (gc bRb (gc k2 (gc (bL h0) (gc k1 gn)))))))))))))
end
section
variable{R:List (List Cel)}{Ak:List UInt8}(h0:(dZ k R)=0)(Cy:k=3)(h2:inR (R.length:Int))(h3:([([107,108,105,115,116,101,114]:List UInt8),([106,117,100,103,101,109,101,110,116,115]:List UInt8),(Lib.itoa (R.length:Int))]:List (List UInt8)).length≤1000000)(h4:(Lib.join ([([107,108,105,115,116,101,114]:List UInt8),([106,117,100,103,101,109,101,110,116,115]:List UInt8),(Lib.itoa (R.length:Int))]:List (List UInt8)) [32]).length≤1000000)(C3:aF Tp 0 oZ (cK k R 0 (lnM ([([107,108,105,115,116,101,114]:List UInt8),([106,117,100,103,101,109,101,110,116,115]:List UInt8),(Lib.itoa (R.length:Int))]:List (List UInt8)))) (.exit 0) (cK k R Ap Ak))
include h0 Cy h2 h3 h4 C3
theorem bVk(h6:Ak.length≤65536)(h7:inR (bQ Ak))(h8:([([115,117,109]:List UInt8),(Lib.itoa (bQ Ak))]:List (List UInt8)).length≤1000000)(h9:(Lib.join ([([115,117,109]:List UInt8),(Lib.itoa (bQ Ak))]:List (List UInt8)) [32]).length≤1000000)(A9:Ak.length+(lnM ([([115,117,109]:List UInt8),(Lib.itoa (bQ Ak))]:List (List UInt8))).length≤4611686018427387904):FV Tp 28 [(.p (.agg [(aB k),(.sl R.length (R.map aN))]))] base (.tup [(.p (aD (Ak++(lnM ([([115,117,109]:List UInt8),(Lib.itoa (bQ Ak))]:List (List UInt8)))))),(pI 0)]) []:=by
 subst Cy;have k1:=fk 1 (iQ 3 R) rfl;have k2:=fk 1 (kJ) rfl;have k3:=fk 10 (dH (R.length:Int) h2) rfl;have k4:=fk 19 (eT 3) rfl;have k5:=fk 19 (eS) rfl;have k6:=fk 1 (mA Ak h6) rfl;have k7:=fk 1 (dH (bQ Ak) h7) rfl;exact FV.fi func28 [k1.o,bF,k2.o,k3.o,.c (.p (aD (lnM ([([107,108,105,115,116,101,114]:List UInt8),([106,117,100,103,101,109,101,110,116,115]:List UInt8),(Lib.itoa (R.length:Int))]:List (List UInt8))))) [(18,.dead)],k4.o,k5.o,.k 4 (gI aw [19]) (.exit 0) (cK 3 R Ap Ak),k6.o,k7.o,.c (.p (aD (lnM ([([115,117,109]:List UInt8),(Lib.itoa (bQ Ak))]:List (List UInt8))))) [(1,.dead)]] (gc A9 (gt (FC Tp 118 [(.own 1)] [(1,(.row 9 2 [(aD ([115,117,109]:List UInt8)),(aD (Lib.itoa (bQ Ak)))]))] 2 (.p (aD (lnM ([([115,117,109]:List UInt8),(Lib.itoa (bQ Ak))]:List (List UInt8))))) [(1,.dead)]) (FV.close (ids:=[1]) (Am:=[(.p (.sl 2 [(aD ([115,117,109]:List UInt8)),(aD (Lib.itoa (bQ Ak)))]))]) (eI ([([115,117,109]:List UInt8),(Lib.itoa (bQ Ak))]:List (List UInt8)) h8 h9) (by kernel_rfl)) (gc k7 (gc k6 (gc C3.code (gc k5 (gc k4 (gt (FC Tp 118 [(.own 18)] [(18,(.row 9 3 [(aD ([107,108,105,115,116,101,114]:List UInt8)),(aD ([106,117,100,103,101,109,101,110,116,115]:List UInt8)),(aD (Lib.itoa (R.length:Int)))]))] 19 (.p (aD (lnM ([([107,108,105,115,116,101,114]:List UInt8),([106,117,100,103,101,109,101,110,116,115]:List UInt8),(Lib.itoa (R.length:Int))]:List (List UInt8))))) [(18,.dead)]) (FV.close (ids:=[18]) (Am:=[(.p (.sl 3 [(aD ([107,108,105,115,116,101,114]:List UInt8)),(aD ([106,117,100,103,101,109,101,110,116,115]:List UInt8)),(aD (Lib.itoa (R.length:Int)))]))]) (eI ([([107,108,105,115,116,101,114]:List UInt8),([106,117,100,103,101,109,101,110,116,115]:List UInt8),(Lib.itoa (R.length:Int))]:List (List UInt8)) h3 h4) (by kernel_rfl)) (gc k3 (gc bRc (gc k2 (gc (bL h0) (gc k1 gn)))))))))))))
theorem bVl(h6:65536<Ak.length)(h7:inR 0)(h8:([([115,117,109]:List UInt8),(Lib.itoa 0)]:List (List UInt8)).length≤1000000)(h9:(Lib.join ([([115,117,109]:List UInt8),(Lib.itoa 0)]:List (List UInt8)) [32]).length≤1000000)(A9:Ak.length+(lnM ([([115,117,109]:List UInt8),(Lib.itoa 0)]:List (List UInt8))).length≤4611686018427387904):FV Tp 28 [(.p (.agg [(aB k),(.sl R.length (R.map aN))]))] base (.tup [(.p (aD (Ak++(lnM ([([115,117,109]:List UInt8),(Lib.itoa 0)]:List (List UInt8)))))),(pI 0)]) []:=by
 subst Cy;have k1:=fk 1 (iQ 3 R) rfl;have k2:=fk 1 (kJ) rfl;have k3:=fk 10 (dH (R.length:Int) h2) rfl;have k4:=fk 19 (eT 3) rfl;have k5:=fk 19 (eS) rfl;have k6:=fk 1 (qH Ak h6) rfl;have k7:=fk 1 (dH 0 h7) rfl;exact FV.fi func28 [k1.o,bF,k2.o,k3.o,.c (.p (aD (lnM ([([107,108,105,115,116,101,114]:List UInt8),([106,117,100,103,101,109,101,110,116,115]:List UInt8),(Lib.itoa (R.length:Int))]:List (List UInt8))))) [(18,.dead)],k4.o,k5.o,.k 4 (gI aw [19]) (.exit 0) (cK 3 R Ap Ak),k6.o,k7.o,.c (.p (aD (lnM ([([115,117,109]:List UInt8),(Lib.itoa 0)]:List (List UInt8))))) [(1,.dead)]] (gc A9 (gt (FC Tp 118 [(.own 1)] [(1,(.row 9 2 [(aD ([115,117,109]:List UInt8)),(aD (Lib.itoa 0))]))] 2 (.p (aD (lnM ([([115,117,109]:List UInt8),(Lib.itoa 0)]:List (List UInt8))))) [(1,.dead)]) (FV.close (ids:=[1]) (Am:=[(.p (.sl 2 [(aD ([115,117,109]:List UInt8)),(aD (Lib.itoa 0))]))]) (eI ([([115,117,109]:List UInt8),(Lib.itoa 0)]:List (List UInt8)) h8 h9) (by kernel_rfl)) (gc k7 (gc k6 (gc C3.code (gc k5 (gc k4 (gt (FC Tp 118 [(.own 18)] [(18,(.row 9 3 [(aD ([107,108,105,115,116,101,114]:List UInt8)),(aD ([106,117,100,103,101,109,101,110,116,115]:List UInt8)),(aD (Lib.itoa (R.length:Int)))]))] 19 (.p (aD (lnM ([([107,108,105,115,116,101,114]:List UInt8),([106,117,100,103,101,109,101,110,116,115]:List UInt8),(Lib.itoa (R.length:Int))]:List (List UInt8))))) [(18,.dead)]) (FV.close (ids:=[18]) (Am:=[(.p (.sl 3 [(aD ([107,108,105,115,116,101,114]:List UInt8)),(aD ([106,117,100,103,101,109,101,110,116,115]:List UInt8)),(aD (Lib.itoa (R.length:Int)))]))]) (eI ([([107,108,105,115,116,101,114]:List UInt8),([106,117,100,103,101,109,101,110,116,115]:List UInt8),(Lib.itoa (R.length:Int))]:List (List UInt8)) h3 h4) (by kernel_rfl)) (gc k3 (gc bRc (gc k2 (gc (bL h0) (gc k1 gn)))))))))))))
end
section
variable{R:List (List Cel)}{Ak:List UInt8}(h0:(dZ k R)=0)(Cy:k=4)(h2:inR (R.length:Int))(h3:([([107,108,105,115,116,101,114]:List UInt8),([99,117,112,115]:List UInt8),(Lib.itoa (R.length:Int))]:List (List UInt8)).length≤1000000)(h4:(Lib.join ([([107,108,105,115,116,101,114]:List UInt8),([99,117,112,115]:List UInt8),(Lib.itoa (R.length:Int))]:List (List UInt8)) [32]).length≤1000000)(C3:aF Tp 0 oZ (cK k R 0 (lnM ([([107,108,105,115,116,101,114]:List UInt8),([99,117,112,115]:List UInt8),(Lib.itoa (R.length:Int))]:List (List UInt8)))) (.exit 0) (cK k R Ap Ak))
include h0 Cy h2 h3 h4 C3
theorem bVm(h6:Ak.length≤65536)(h7:inR (bQ Ak))(h8:([([115,117,109]:List UInt8),(Lib.itoa (bQ Ak))]:List (List UInt8)).length≤1000000)(h9:(Lib.join ([([115,117,109]:List UInt8),(Lib.itoa (bQ Ak))]:List (List UInt8)) [32]).length≤1000000)(A9:Ak.length+(lnM ([([115,117,109]:List UInt8),(Lib.itoa (bQ Ak))]:List (List UInt8))).length≤4611686018427387904):FV Tp 28 [(.p (.agg [(aB k),(.sl R.length (R.map aN))]))] base (.tup [(.p (aD (Ak++(lnM ([([115,117,109]:List UInt8),(Lib.itoa (bQ Ak))]:List (List UInt8)))))),(pI 0)]) []:=by
 subst Cy;have k1:=fk 1 (iQ 4 R) rfl;have k2:=fk 1 (kJ) rfl;have k3:=fk 10 (dH (R.length:Int) h2) rfl;have k4:=fk 19 (eT 4) rfl;have k5:=fk 19 (eS) rfl;have k6:=fk 1 (mA Ak h6) rfl;have k7:=fk 1 (dH (bQ Ak) h7) rfl;exact FV.fi func28 [k1.o,bF,k2.o,k3.o,.c (.p (aD (lnM ([([107,108,105,115,116,101,114]:List UInt8),([99,117,112,115]:List UInt8),(Lib.itoa (R.length:Int))]:List (List UInt8))))) [(18,.dead)],k4.o,k5.o,.k 4 (gI aw [19]) (.exit 0) (cK 4 R Ap Ak),k6.o,k7.o,.c (.p (aD (lnM ([([115,117,109]:List UInt8),(Lib.itoa (bQ Ak))]:List (List UInt8))))) [(1,.dead)]] (gc A9 (gt (FC Tp 118 [(.own 1)] [(1,(.row 9 2 [(aD ([115,117,109]:List UInt8)),(aD (Lib.itoa (bQ Ak)))]))] 2 (.p (aD (lnM ([([115,117,109]:List UInt8),(Lib.itoa (bQ Ak))]:List (List UInt8))))) [(1,.dead)]) (FV.close (ids:=[1]) (Am:=[(.p (.sl 2 [(aD ([115,117,109]:List UInt8)),(aD (Lib.itoa (bQ Ak)))]))]) (eI ([([115,117,109]:List UInt8),(Lib.itoa (bQ Ak))]:List (List UInt8)) h8 h9) (by kernel_rfl)) (gc k7 (gc k6 (gc C3.code (gc k5 (gc k4 (gt (FC Tp 118 [(.own 18)] [(18,(.row 9 3 [(aD ([107,108,105,115,116,101,114]:List UInt8)),(aD ([99,117,112,115]:List UInt8)),(aD (Lib.itoa (R.length:Int)))]))] 19 (.p (aD (lnM ([([107,108,105,115,116,101,114]:List UInt8),([99,117,112,115]:List UInt8),(Lib.itoa (R.length:Int))]:List (List UInt8))))) [(18,.dead)]) (FV.close (ids:=[18]) (Am:=[(.p (.sl 3 [(aD ([107,108,105,115,116,101,114]:List UInt8)),(aD ([99,117,112,115]:List UInt8)),(aD (Lib.itoa (R.length:Int)))]))]) (eI ([([107,108,105,115,116,101,114]:List UInt8),([99,117,112,115]:List UInt8),(Lib.itoa (R.length:Int))]:List (List UInt8)) h3 h4) (by kernel_rfl)) (gc k3 (gc bRd (gc k2 (gc (bL h0) (gc k1 gn)))))))))))))
theorem bMt(h6:65536<Ak.length)(h7:inR 0)(h8:([([115,117,109]:List UInt8),(Lib.itoa 0)]:List (List UInt8)).length≤1000000)(h9:(Lib.join ([([115,117,109]:List UInt8),(Lib.itoa 0)]:List (List UInt8)) [32]).length≤1000000)(A9:Ak.length+(lnM ([([115,117,109]:List UInt8),(Lib.itoa 0)]:List (List UInt8))).length≤4611686018427387904):FV Tp 28 [(.p (.agg [(aB k),(.sl R.length (R.map aN))]))] base (.tup [(.p (aD (Ak++(lnM ([([115,117,109]:List UInt8),(Lib.itoa 0)]:List (List UInt8)))))),(pI 0)]) []:=by
 subst Cy;have k1:=fk 1 (iQ 4 R) rfl;have k2:=fk 1 (kJ) rfl;have k3:=fk 10 (dH (R.length:Int) h2) rfl;have k4:=fk 19 (eT 4) rfl;have k5:=fk 19 (eS) rfl;have k6:=fk 1 (qH Ak h6) rfl;have k7:=fk 1 (dH 0 h7) rfl;exact FV.fi func28 [k1.o,bF,k2.o,k3.o,.c (.p (aD (lnM ([([107,108,105,115,116,101,114]:List UInt8),([99,117,112,115]:List UInt8),(Lib.itoa (R.length:Int))]:List (List UInt8))))) [(18,.dead)],k4.o,k5.o,.k 4 (gI aw [19]) (.exit 0) (cK 4 R Ap Ak),k6.o,k7.o,.c (.p (aD (lnM ([([115,117,109]:List UInt8),(Lib.itoa 0)]:List (List UInt8))))) [(1,.dead)]] (gc A9 (gt (FC Tp 118 [(.own 1)] [(1,(.row 9 2 [(aD ([115,117,109]:List UInt8)),(aD (Lib.itoa 0))]))] 2 (.p (aD (lnM ([([115,117,109]:List UInt8),(Lib.itoa 0)]:List (List UInt8))))) [(1,.dead)]) (FV.close (ids:=[1]) (Am:=[(.p (.sl 2 [(aD ([115,117,109]:List UInt8)),(aD (Lib.itoa 0))]))]) (eI ([([115,117,109]:List UInt8),(Lib.itoa 0)]:List (List UInt8)) h8 h9) (by kernel_rfl)) (gc k7 (gc k6 (gc C3.code (gc k5 (gc k4 (gt (FC Tp 118 [(.own 18)] [(18,(.row 9 3 [(aD ([107,108,105,115,116,101,114]:List UInt8)),(aD ([99,117,112,115]:List UInt8)),(aD (Lib.itoa (R.length:Int)))]))] 19 (.p (aD (lnM ([([107,108,105,115,116,101,114]:List UInt8),([99,117,112,115]:List UInt8),(Lib.itoa (R.length:Int))]:List (List UInt8))))) [(18,.dead)]) (FV.close (ids:=[18]) (Am:=[(.p (.sl 3 [(aD ([107,108,105,115,116,101,114]:List UInt8)),(aD ([99,117,112,115]:List UInt8)),(aD (Lib.itoa (R.length:Int)))]))]) (eI ([([107,108,105,115,116,101,114]:List UInt8),([99,117,112,115]:List UInt8),(Lib.itoa (R.length:Int))]:List (List UInt8)) h3 h4) (by kernel_rfl)) (gc k3 (gc bRd (gc k2 (gc (bL h0) (gc k1 gn)))))))))))))
end
def gC(k:Int)(R:List (List Cel))(i:Nat)(o:List UInt8)(Ab:List Cel)(j fn:Nat)(fc:List PV):St:=⟨fr 81 [(2,(.p (aD ([]:List UInt8)))),(3,(pI 0)),(5,(.p (aD o))),(6,(.p (bD (aJ k)))),(8,(.ptr 0 0)),(10,(.p (.sl Ab.length ((Ab.map cE).flatten)))),(11,(.own 1)),(38,(.p (.sl R.length (R.map aN)))),(39,(pI (R.length:Int))),(40,(pI (i:Int))),(41,(pB (decide ((i:Int)<(R.length:Int))))),(42,(.rp (R.map aN) (i*1))),(43,(.p (.sl Ab.length ((Ab.map cE).flatten)))),(44,(.p (bD (aJ k)))),(45,(pI ((aJ k).length:Int))),(46,(pI (j:Int)))],[some (.box 214 [(.fn 224 [] [(.rp [(PV.fn 188 [] [])] 0)]),(.fn 225 [] [(.rp [(PV.fn 120 [] [])] 0)]),(.fn 226 [] [(.rp [(aB 999999)] 0)]),(.fn 224 [] [(.rp [(PV.fn 39 [] [])] 0)]),(.fn 225 [] [(.rp [(PV.fn 189 [] [])] 0)]),(.fn 226 [] [(.rp [(aB 360000)] 0)]),(.fn 227 [] [(.rp [(PV.fn 191 [] [])] 0)]),(.fn 228 [] []),(.fn 229 [] [(.rp [(PV.fn 191 [] [])] 0)]),(.fn 227 [] [(.rp [(PV.fn 192 [] [])] 0)]),(.fn 228 [] []),(.fn 229 [] [(.rp [(PV.fn 192 [] [])] 0)])]),some (.row 9 fn fc)]⟩
theorem aYj{R:List (List Cel)}{o:List UInt8}{Ab:List Cel}{Ks:Nat}{Cf:List (List UInt8)}{i':Nat}{o':List UInt8}(h0:(i:Int)<(R.length:Int))(h1:R[i]? = some Ab)(Bl:aF Tp 0 aEc (gC k R i o Ab 0 0 []) (.exit 2) (gC k R i o Ab Ks Cf.length ((Cf.map stE).flatten)))(h3:Cf.length≤1000000)(h4:(Lib.join Cf [32]).length≤1000000)(h5:o.length+(lnM Cf).length≤4611686018427387904)(h6:cp i)(Ai:i'=(i+1))(Nc:o'=(o++(lnM Cf))):aA Tp 0 oZ (cK k R i o) .normal (cK k R i' o'):=by
 subst Ai Nc;exact aA.fi (gI aw [0]) [bT,.x (.sl Ab.length ((Ab.map cE).flatten)),Bl.k 6 (gN aq [0,1] [(11,9)]),.c (.p (aD (lnM Cf))) [(1,.dead)]] (gc h6 (gc h5 (gt (FC Tp 118 [(.own 1)] [(1,(.row 9 Cf.length ((Cf.map stE).flatten)))] 2 (.p (aD (lnM Cf))) [(1,.dead)]) (FV.close (ids:=[1]) (Am:=[(.p (.sl Cf.length ((Cf.map stE).flatten)))]) (eI Cf h3 h4) (by kernel_rfl)) (gc Bl.code (gc (atm aN h1) (gc (ixn aN h1) (g0 h0)))))))
theorem aYk{R:List (List Cel)}{o:List UInt8}(h0:(R.length:Int)≤(i:Int)):aA Tp 0 oZ (cK k R i o) (.exit 0) (cK k R i o):=aA.fi (gI aw [0]) [bF] (gc (bH h0) gn)
section
variable(h0:(j:Int)<((aJ k).length:Int))
include h0
theorem aYl{R:List (List Cel)}{o:List UInt8}{Ab:List Cel}{f:List (List UInt8)}{Bi:List UInt8}{f':List (List UInt8)}(h1:(aJ k)[j]? = some 0)(h2:Ab[j]? = some (Bm,Bi))(h3:inR Bm)(h4:[(aD (wrM 0 (Bm,Bi)))].length=1*1∧f.length+1≤1000000)(h5:cp j)(Bz:j'=(j+1))(Fw:f'.length=(f.length+1))(Fx:(f'.map stE).flatten=(((f.map stE).flatten)++[(aD (wrM 0 (Bm,Bi)))])):aA Tp 0 aEc (gC k R i o Ab j f.length ((f.map stE).flatten)) .normal (gC k R i o Ab j' f'.length ((f'.map stE).flatten)):=by
 subst Bz;have k1:=fk 2 (bXn Bm Bi h3) rfl;rw [Fw,Fx];exact aA.fi (gI aq [0,11]) [bT,.x (aB 0),.x (.agg [(aB Bm),(aD Bi)]),k1.o] (gc h5 (gc h4 (gc k1 (gc (bG (E:=cE) (i:=j) (k:=2) (fun _=>rfl) h2 rfl) (gc (cC (E:=cE) (i:=j) (k:=2) (fun _=>rfl) h2) (gc (bB (E:=cE) (k:=2) (i:=(j:Int)) (fun _=>rfl) (by decide) (Bt _) h2) (gt (0≤(0:Int)∧(0:Int)<4) (by first | decide | simp) (gc (atm aB h1) (gc (ixn aB h1) (g0 h0))))))))))
theorem aYm{R:List (List Cel)}{o:List UInt8}{Ab:List Cel}{f:List (List UInt8)}{Bi:List UInt8}{f':List (List UInt8)}(h1:(aJ k)[j]? = some 1)(h2:Ab[j]? = some (Bm,Bi))(h3:[(aD (wrM 1 (Bm,Bi)))].length=1*1∧f.length+1≤1000000)(h4:cp j)(Bz:j'=(j+1))(Fw:f'.length=(f.length+1))(Fx:(f'.map stE).flatten=(((f.map stE).flatten)++[(aD (wrM 1 (Bm,Bi)))])):aA Tp 0 aEc (gC k R i o Ab j f.length ((f.map stE).flatten)) .normal (gC k R i o Ab j' f'.length ((f'.map stE).flatten)):=by
 subst Bz;have k1:=fk 2 (bXo Bm Bi) rfl;rw [Fw,Fx];exact aA.fi (gI aq [0,11]) [bT,.x (aB 1),.x (.agg [(aB Bm),(aD Bi)]),k1.o] (gc h4 (gc h3 (gc k1 (gc (bG (E:=cE) (i:=j) (k:=2) (fun _=>rfl) h2 rfl) (gc (cC (E:=cE) (i:=j) (k:=2) (fun _=>rfl) h2) (gc (bB (E:=cE) (k:=2) (i:=(j:Int)) (fun _=>rfl) (by decide) (Bt _) h2) (gt (0≤(1:Int)∧(1:Int)<4) (by first | decide | simp) (gc (atm aB h1) (gc (ixn aB h1) (g0 h0))))))))))
theorem aYn{R:List (List Cel)}{o:List UInt8}{Ab:List Cel}{f:List (List UInt8)}{Bi:List UInt8}{f':List (List UInt8)}(h1:(aJ k)[j]? = some 2)(h2:Ab[j]? = some (Bm,Bi))(h3:[(aD (wrM 2 (Bm,Bi)))].length=1*1∧f.length+1≤1000000)(h4:cp j)(Bz:j'=(j+1))(Fw:f'.length=(f.length+1))(Fx:(f'.map stE).flatten=(((f.map stE).flatten)++[(aD (wrM 2 (Bm,Bi)))])):aA Tp 0 aEc (gC k R i o Ab j f.length ((f.map stE).flatten)) .normal (gC k R i o Ab j' f'.length ((f'.map stE).flatten)):=by
 subst Bz;have k1:=fk 2 (bHr Bm Bi) rfl;rw [Fw,Fx];exact aA.fi (gI aq [0,11]) [bT,.x (aB 2),.x (.agg [(aB Bm),(aD Bi)]),k1.o] (gc h4 (gc h3 (gc k1 (gc (bG (E:=cE) (i:=j) (k:=2) (fun _=>rfl) h2 rfl) (gc (cC (E:=cE) (i:=j) (k:=2) (fun _=>rfl) h2) (gc (bB (E:=cE) (k:=2) (i:=(j:Int)) (fun _=>rfl) (by decide) (Bt _) h2) (gt (0≤(2:Int)∧(2:Int)<4) (by first | decide | simp) (gc (atm aB h1) (gc (ixn aB h1) (g0 h0))))))))))
theorem aYo{R:List (List Cel)}{o:List UInt8}{Ab:List Cel}{f:List (List UInt8)}{Bi:List UInt8}{f':List (List UInt8)}(h1:(aJ k)[j]? = some 3)(h2:Ab[j]? = some (Bm,Bi))(h3:[(aD (wrM 2 (Bm,Bi)))].length=1*1∧f.length+1≤1000000)(h4:cp j)(Bz:j'=(j+1))(Fw:f'.length=(f.length+1))(Fx:(f'.map stE).flatten=(((f.map stE).flatten)++[(aD (wrM 2 (Bm,Bi)))])):aA Tp 0 aEc (gC k R i o Ab j f.length ((f.map stE).flatten)) .normal (gC k R i o Ab j' f'.length ((f'.map stE).flatten)):=by
 subst Bz;have k1:=fk 2 (bHr Bm Bi) rfl;rw [Fw,Fx];exact aA.fi (gI aq [0,11]) [bT,.x (aB 3),.x (.agg [(aB Bm),(aD Bi)]),k1.o] (gc h4 (gc h3 (gc k1 (gc (bG (E:=cE) (i:=j) (k:=2) (fun _=>rfl) h2 rfl) (gc (cC (E:=cE) (i:=j) (k:=2) (fun _=>rfl) h2) (gc (bB (E:=cE) (k:=2) (i:=(j:Int)) (fun _=>rfl) (by decide) (Bt _) h2) (gt (0≤(3:Int)∧(3:Int)<4) (by first | decide | simp) (gc (atm aB h1) (gc (ixn aB h1) (g0 h0))))))))))
end
theorem aYp{R:List (List Cel)}{o:List UInt8}{Ab:List Cel}{f:List (List UInt8)}(h0:((aJ k).length:Int)≤(j:Int)):aA Tp 0 aEc (gC k R i o Ab j f.length ((f.map stE).flatten)) (.exit 2) (gC k R i o Ab j f.length ((f.map stE).flatten)):=aA.fi (gI aq [0,1]) [bF] (gc (bH h0) gn)
end
end KV
end Go.Proofs
section
namespace Go.Proofs
open Go.RowKit
namespace KV
open Tryz
def cZ(k:Int)(x:List Cel):List (List UInt8):=List.zipWith wrM (aJ k) x
def jY(k:Int):List UInt8:=if k=0 then [115,116,97,114,116,115] else if k=1 then [112,97,115,115,101,115] else if k=2 then [116,97,114,103,101,116,115] else if k=3 then [106,117,100,103,101,109,101,110,116,115] else [99,117,112,115]
def lY(k:Int)(n:Nat):List UInt8:=lnM [[107,108,105,115,116,101,114],jY k,Lib.itoa (n:Int)]
def iX(k:Int)(R:List (List Cel)):List UInt8:=R.foldl (fun o x=>o++lnM (cZ k x)) (lY k R.length)
def kW(b:List UInt8):Int:=if b.length≤65536 then bQ b else 0
def qE(k:Int)(R:List (List Cel)):List UInt8 × Int:=if dZ k R≠0 then ([],dZ k R) else (iX k R++lnM [[115,117,109],Lib.itoa (kW (iX k R))],0)
theorem bMs(t:Int)(c:Cel):ckM t c=0∨ckM t c=3∨ckM t c=11:=by
 unfold ckM
 repeat' split
 all_goals simp
theorem aGr{a:Int}{z:List UInt8}(h:ckM 0 (a,z)=0):0≤a∧a≤999999:=by
 by_cases q:within a 0 999999=true
 ·exact cO.1 q
 ·have e:ckM 0 (a,z)=3:=by simp [ckM,q]
  rw [e] at h;exact absurd h (by decide)
theorem aOo{a:Int}{z:List UInt8}(h:ckM 1 (a,z)=0):0≤a∧a≤360000:=by
 by_cases q:within a 0 360000=true
 ·exact cO.1 q
 ·have e:ckM 1 (a,z)=3:=by simp [ckM,q]
  rw [e] at h;exact absurd h (by decide)
theorem aOp{a:Int}{z:List UInt8}(h:ckM 2 (a,z)=0):nI z=true∧z.length≤8:=by
 by_cases q:nI z=true
 ·refine ⟨q,?_⟩
  unfold nI at q
  rw [B4] at q
  have:=cO.1 q.1;omega
 ·have e:ckM 2 (a,z)=11:=by simp [ckM,q]
  rw [e] at h;exact absurd h (by decide)
theorem aOq{a:Int}{z:List UInt8}(h:ckM 3 (a,z)=0):nJ z=true∧z.length≤12:=by
 by_cases q:nJ z=true
 ·refine ⟨q,?_⟩
  unfold nJ at q
  rw [B4] at q
  have:=cO.1 q.1;omega
 ·have e:ckM 3 (a,z)=11:=by simp [ckM,q]
  rw [e] at h;exact absurd h (by decide)
theorem bUz{a:Int}(h:0≤a∧a≤360000):(ptM a).1.length≤66:=by
 have h1:a.tdiv 10=a / 10:=Int.tdiv_eq_ediv_of_nonneg h.1;have h2:a.tdiv 600=a / 600:=Int.tdiv_eq_ediv_of_nonneg h.1;have h3:a.tmod 10=a % 10:=Int.tmod_eq_emod_of_nonneg h.1;have h4:(a.tdiv 10).tmod 60=a.tdiv 10 % 60:=Int.tmod_eq_emod_of_nonneg (by omega)
 have l1:=itl (n:=a.tdiv 600) (by omega)
 have l2:=itl (n:=a.tmod 10) (by omega)
 have l3:=itl (n:=100+(a.tdiv 10).tmod 60) (by omega)
 unfold ptM;rw [if_pos (cO.2 h)];simp only [Bv,xY,Cb,List.length_nil];omega
theorem bVa{t:Int}{c:Cel}(ht:t=0∨t=1∨t=2∨t=3)(h:ckM t c=0):(wrM t c).length≤66:=by
 obtain ⟨a,z⟩:=c
 rcases ht with rfl | rfl | rfl | rfl
 ·have:=aGr h
  have:=itl (n:=a) (by omega)
  show (Lib.itoa a).length≤66;omega
 ·exact bUz (aOo h)
 ·have:=(aOp h).2
  show z.length≤66;omega
 ·have:=(aOq h).2
  show z.length≤66;omega
structure aAs (k:Int) (R:List (List Cel)):Prop where
 n:R.length≤200
 w:within k 0 4=true
 len:∀ x∈R,x.length=(aJ k).length
 ck:∀ x∈R,∀ (j:Nat) t c,(aJ k)[j]? = some t→x[j]? = some c→ckM t c=0
theorem uT{k:Int}{R:List (List Cel)}(h:dZ k R=0):aAs k R:=by
 unfold dZ at h
 split at h
 ·cases h
 ·rename_i hk
  split at h
  ·cases h
  ·rename_i hn
   have hl:R.length≤200:=by
    apply Classical.byContradiction;intro q;exact hn (.inl (by omega))
   have hne:R.all Du=true:=by
    cases e:R.all Du
    ·exact absurd (.inr e) hn
    ·rfl
   split at h
   ·rename_i hc;exact absurd h hc
   ·rename_i hc
    have hc:lI k R=0:=by
     apply Classical.byContradiction;exact hc
    have hf:=aRz (k:=k) (R:=R) (by rw [hc];decide)
    have G7:=hf;rw [iD] at hf hne
    refine ⟨hl,by simpa using hk,fun x hx=>aRy (hne x hx) (hf x hx),fun x hx j t c h1 h2 => ?_⟩
    unfold lI at hc
    rw [if_neg (by rw [G7];simp)] at hc
    split at hc
    ·cases hc
    ·rename_i q3
     split at hc
     ·cases hc
     ·rename_i Q5
      have hm:(aKk k x)[j]? = some (ckM t c):=by
       unfold aKk;rw [List.getElem?_zipWith,h1,h2]
      have key:∀ e,¬ (R.any (aAx k e)=true)→ckM t c≠e:=fun e q he=>q (List.any_eq_true.2 ⟨x,hx,List.any_eq_true.2 ⟨_,B0 hm,by simpa using he⟩⟩)
      rcases bMs t c with e | e | e
      ·exact e
      ·exact absurd e (key 3 q3)
      ·exact absurd e (key 11 Q5)
theorem fN(a b:List UInt8)(r:List (List UInt8))(sep:List UInt8):Lib.join (a::b::r) sep=a++sep++Lib.join (b::r) sep:=by
 simp [Lib.join,List.intercalate]
theorem jZ(B:Nat):∀ (l:List (List UInt8)),(∀ s∈l,s.length≤B)→(Lib.join l [32]).length≤l.length*(B+1)
 | [],_=>by simp [Lib.join,List.intercalate]
 | [a],h=>by
  have:=h a (by simp)
  simp [Lib.join,List.intercalate];omega
 | a::b::r,h=>by
  have h1:=h a (by simp)
  have h2:=jZ B (b::r) (fun s hs=>h s (by simp at hs ⊢;exact .inr hs))
  rw [fN,Bv,Bv,Cb (a:=a),Nat.succ_mul];simp only [Cb,List.length_nil] at h2 ⊢
  omega
theorem kA(k:Int):(aJ k).length≤4:=by
 unfold aJ;repeat' split
 all_goals simp
theorem aRw{k:Int}{x:List Cel}{s:List UInt8}(h:s∈cZ k x):∃ (j:Nat) (t:Int) (c:Cel),(aJ k)[j]? = some t∧x[j]? = some c∧s=wrM t c:=by
 obtain ⟨j,hj,e⟩:=List.mem_iff_getElem.1 h;have:(cZ k x)[j]? = some s:=by rw [Bw hj,e]
 unfold cZ at this
 rw [List.getElem?_zipWith] at this
 cases h1:(aJ k)[j]? with
 | none=>rw [h1] at this;simp at this
 | some t =>
  cases h2:x[j]? with
  | none=>rw [h1,h2] at this;simp at this
  | some c=>rw [h1,h2] at this;exact ⟨j,t,c,h1,h2,by simpa using this.symm⟩
theorem aAt{k:Int}{R:List (List Cel)}(hR:aAs k R){x:List Cel}(hx:x∈R):(cZ k x).length≤4∧(Lib.join (cZ k x) [32]).length≤268:=by
 have hl:(cZ k x).length≤4:=by
  have:=kA k;unfold cZ;rw [List.length_zipWith];omega
 have:=jZ 66 (cZ k x) (fun s hs=>by
  obtain ⟨j,t,c,h1,h2,rfl⟩:=aRw hs;exact bVa (iT h1) (hR.ck x hx j t c h1 h2))
 refine ⟨hl,iE this ?_⟩;omega
theorem aEb:∀ (l:List (Int × Cel)) (f:List (List UInt8)),l.foldl (fun f p=>f++[wrM p.1 p.2]) f=f++l.map (fun p=>wrM p.1 p.2)
 | [],f=>by simp
 | p::l,f=>by rw [bMf,aEb l,gS];simp
theorem bHg(k:Int)(x:List Cel):((aJ k).zip x).map (fun p=>wrM p.1 p.2)=cZ k x:=by
 unfold cZ;rw [List.zip,List.map_zipWith]
theorem bVb{l:List Int}{x:List Cel}{j:Nat}{p:Int × Cel}(h:(l.zip x)[j]? = some p):l[j]? = some p.1∧x[j]? = some p.2:=by
 rw [List.zip,List.getElem?_zipWith] at h
 cases h1:l[j]? with
 | none=>rw [h1] at h;simp at h
 | some t =>
  cases h2:x[j]? with
  | none=>rw [h1,h2] at h;simp at h
  | some c=>rw [h1,h2] at h;simp at h;subst h;exact ⟨rfl,rfl⟩
theorem aOr{k:Int}{R:List (List Cel)}(hR:aAs k R){x:List Cel}(hx:x∈R)(i:Nat)(o:List UInt8) :
  aF Tp 0 (sub (cd Tryz.f28) aj) (gC k R i o x 0 0 []) (.exit 2) (gC k R i o x (aJ k).length (cZ k x).length (((cZ k x).map stE).flatten)):=by
 have hc:=kA k;have hl:((aJ k).zip x).length=(aJ k).length:=by rw [List.length_zip,hR.len x hx,Nat.min_self]
 have:=aF.range (P:=Tp) (k:=0) (b:=(sub (cd Tryz.f28) aj)) (e := .exit 2) (fun j (f:List (List UInt8))=>gC k R i o x j f.length ((f.map stE).flatten)) (fun f=>gC k R i o x (aJ k).length f.length ((f.map stE).flatten)) (fun f p=>f++[wrM p.1 p.2]) (fun j f=>f.length=j) (by simp) ((aJ k).zip x) (a0:=[]) rfl
  (fun j p f hp hf=>by
   have hj:=bC hp;obtain ⟨h1,h2⟩:=bVb hp;obtain ⟨t,a,z⟩:=p;have hk:=hR.ck x hx j t (a,z) h1 h2;refine ⟨by simp [hf],?_⟩
   rcases iT h1 with e | e | e | e
   ·simp only at e h1 h2;subst e
    have hb:=aGr hk;exact aYl (by omega) h1 h2 (by show _∧_;omega) ⟨rfl,by omega⟩ (aR (by omega)) rfl (by simp) (by simp [stE])
   ·simp only at e h1 h2;subst e
    exact aYm (by omega) h1 h2 ⟨rfl,by omega⟩ (aR (by omega)) rfl (by simp) (by simp [stE])
   ·simp only at e h1 h2;subst e
    exact aYn (by omega) h1 h2 ⟨rfl,by omega⟩ (aR (by omega)) rfl (by simp) (by simp [stE])
   ·simp only at e h1 h2;subst e
    exact aYo (by omega) h1 h2 ⟨rfl,by omega⟩ (aR (by omega)) rfl (by simp) (by simp [stE,wrM]))
  (fun f _=>by rw [hl];exact aYp (by omega))
 rw [aEb,List.nil_append,bHg] at this
 exact this
theorem aYi{k:Int}{R:List (List Cel)}(hR:aAs k R)(h:List UInt8)(hh:h.length≤1000) :
  aF Tp 0 (sub (cd Tryz.f28) [1,1,1,1,1,0,1,0,0]) (cK k R 0 h) (.exit 0) (cK k R R.length (R.foldl (fun o x=>o++lnM (cZ k x)) h)):=by
 have hn:=hR.n;exact aF.range (P:=Tp) (k:=0) (b:=(sub (cd Tryz.f28) [1,1,1,1,1,0,1,0,0])) (e := .exit 0) (fun i (o:List UInt8)=>cK k R i o) (fun o=>cK k R R.length o) (fun o x=>o++lnM (cZ k x)) (fun i o=>o.length≤1000+300*i) (by simp) R (a0:=h) (by omega)
  (fun i x o hx ho=>by
   have hi:=bC hx;have hm:=B0 hx;obtain ⟨q1,q2⟩:=aAt hR hm;have hln:(lnM (cZ k x)).length≤269:=by unfold lnM;rw [Bv];simp;omega
   exact ⟨by rw [Bv];omega,aYj (by omega) hx (aOr hR hm i o) (by omega) (by omega) (by omega) (aR (by omega)) rfl rfl⟩)
  (fun o _=>aYk (by omega))
theorem aAu{k:Int}{R:List (List Cel)}(hR:aAs k R):∀ (l:List (List Cel)) (h:List UInt8),(∀ x∈l,x∈R)→(l.foldl (fun o x=>o++lnM (cZ k x)) h).length≤h.length+300*l.length
 | [],h,_=>by simp
 | x::l,h,hx=>by
  obtain ⟨q1,q2⟩:=aAt hR (hx x (by simp))
  have hln:(lnM (cZ k x)).length≤269:=by unfold lnM;rw [Bv];simp;omega
  have:=aAu hR l (h++lnM (cZ k x)) (fun y hy=>hx y (by simp [hy]))
  rw [Bv] at this
  rw [bMf,Cb];omega
theorem aRx(b:List UInt8):0≤bQ b∧bQ b<65521:=bIa b 0 (by omega)
theorem bHh(k:Int)(R:List (List Cel)){base:Nat}:FV Tp 28 [.p (.agg [aB k,bZ R])] base (.tup [.p (aD (qE k R).1),.p (aB (qE k R).2)]) []:=by
 unfold qE
 by_cases hc:dZ k R=0
 ·rw [if_neg (by simp [hc])]
  have hR:=uT hc;have hn:=hR.n;have hi:=itl (n:=(R.length:Int)) (by omega)
  have hw:(jY k).length≤10:=by unfold jY;(repeat' split) <;> simp
  have hj:∀ w:List UInt8,w.length≤10→(Lib.join [[107,108,105,115,116,101,114],w,Lib.itoa (R.length:Int)] [32]).length≤100:=fun w hw=>by
   have:=jZ 30 [[107,108,105,115,116,101,114],w,Lib.itoa (R.length:Int)] (fun s hs=>by
    simp only [jU,List.not_mem_nil,or_false] at hs
    rcases hs with rfl | rfl | rfl
    ·simp
    ·omega
    ·omega)
   simp only [Cb,List.length_nil] at this
   omega
  have hh:(lY k R.length).length≤1000:=by
   have:=hj (jY k) hw;unfold lY lnM;rw [Bv];simp;omega
  have L:=aYi hR (lY k R.length) hh;have hb:=aAu hR R (lY k R.length) (fun x hx=>hx)
  have ev:iX k R=R.foldl (fun o x=>o++lnM (cZ k x)) (lY k R.length):=rfl
  rw [← ev] at L hb
  generalize iX k R=b at L hb ⊢
  have hsv:0≤kW b∧kW b<65521:=by
   unfold kW;split
   ·exact aRx b
   ·omega
  have hs:=itl (n:=kW b) (by omega)
  have hjs:(Lib.join [[115,117,109],Lib.itoa (kW b)] [32]).length≤100:=by
   have:=jZ 30 [[115,117,109],Lib.itoa (kW b)] (fun s hs=>by
    simp only [jU,List.not_mem_nil,or_false] at hs
    rcases hs with rfl | rfl
    ·simp
    ·omega)
   simp only [Cb,List.length_nil] at this
   omega
  have hls:(lnM [[115,117,109],Lib.itoa (kW b)]).length≤101:=by unfold lnM;rw [Bv];simp;omega
  have hk:=cO.1 hR.w;have Oz:k=0∨k=1∨k=2∨k=3∨k=4:=by omega
  have g1:inR (R.length:Int):=aR (by omega)
  have h3:∀ w:List UInt8,([[107,108,105,115,116,101,114],w,Lib.itoa (R.length:Int)]:List (List UInt8)).length≤1000000:=fun w=>by simp
  have h2:([[115,117,109],Lib.itoa (kW b)]:List (List UInt8)).length≤1000000:=by simp
  have gs:inR (kW b):=by unfold inR;omega
  by_cases h6:b.length≤65536
  ·have es:kW b=bQ b:=by unfold kW;rw [if_pos h6]
   rw [es] at hjs hls h2 gs ⊢
   rcases Oz with rfl | rfl | rfl | rfl | rfl
   ·exact bVe hc rfl g1 (h3 _) (iE (hj _ (by simp)) (by omega)) L h6 gs h2 (by omega) (by omega)
   ·exact bVg hc rfl g1 (h3 _) (iE (hj _ (by simp)) (by omega)) L h6 gs h2 (by omega) (by omega)
   ·exact bVi hc rfl g1 (h3 _) (iE (hj _ (by simp)) (by omega)) L h6 gs h2 (by omega) (by omega)
   ·exact bVk hc rfl g1 (h3 _) (iE (hj _ (by simp)) (by omega)) L h6 gs h2 (by omega) (by omega)
   ·exact bVm hc rfl g1 (h3 _) (iE (hj _ (by simp)) (by omega)) L h6 gs h2 (by omega) (by omega)
  ·have es:kW b=0:=by unfold kW;rw [if_neg h6]
   rw [es] at hjs hls h2 gs ⊢
   rcases Oz with rfl | rfl | rfl | rfl | rfl
   ·exact bVf hc rfl g1 (h3 _) (iE (hj _ (by simp)) (by omega)) L (by omega) gs h2 (by omega) (by omega)
   ·exact bVh hc rfl g1 (h3 _) (iE (hj _ (by simp)) (by omega)) L (by omega) gs h2 (by omega) (by omega)
   ·exact bVj hc rfl g1 (h3 _) (iE (hj _ (by simp)) (by omega)) L (by omega) gs h2 (by omega) (by omega)
   ·exact bVl hc rfl g1 (h3 _) (iE (hj _ (by simp)) (by omega)) L (by omega) gs h2 (by omega) (by omega)
   ·exact bMt hc rfl g1 (h3 _) (iE (hj _ (by simp)) (by omega)) L (by omega) gs h2 (by omega) (by omega)
 ·rw [if_pos hc]
  exact bVd hc rfl
end KV
end Go.Proofs
end
namespace Go.Proofs
namespace KV
open Tryz
section
variable {r0:Bool}{e f k l er fd ln:Int}{i i' Ap:Nat}

noncomputable abbrev nG:Code:=sub (cd Tryz.f177) [1,0,1,0,0]
theorem bQp:0≤(0:Int)∧(0:Int)<5:=by first | decide | simp
theorem bQq:(decide ((0:Int)<5))=true:=by first | decide | simp
theorem bQr:0≤(1:Int)∧(1:Int)<5:=by first | decide | simp
theorem bQs:(decide ((1:Int)<5))=true:=by first | decide | simp
theorem bQt:0≤(2:Int)∧(2:Int)<5:=by first | decide | simp
theorem bQu:(decide ((2:Int)<5))=true:=by first | decide | simp
theorem bQv:0≤(3:Int)∧(3:Int)<5:=by first | decide | simp
theorem bQw:(decide ((3:Int)<5))=true:=by first | decide | simp
theorem bQx:0≤(4:Int)∧(4:Int)<5:=by first | decide | simp
theorem bQy:(decide ((4:Int)<5))=true:=by first | decide | simp
def rwE(r:List Cel):List PV:=[aN r]
theorem fI:∀ R:List (List Cel),(R.map rwE).flatten=R.map aN
 | []=>rfl
 | r::R=>by rw [gS,vW,fI R];rfl
theorem bUv{R:List (List Cel)}(h0:e=0)(h1:er≠0)(Al:r0=(er == 0)):FMM Tp 176 [(pI fd),(pI er),(.ptr 0 0),(.ptr 1 0)] [some (.box 156 [(.ptr 2 0)]),some (.box 3 [(pI ln)]),some (.box 158 [(pI k),(.own 3),(pI l),(pI f),(pI e)]),some (.row 78 R.length ((R.map rwE).flatten))] (pB r0) [some (.box 156 [(.ptr 2 0)]),some (.box 3 [(pI ln)]),some (.box 158 [(pI k),(.own 3),(pI ln),(pI fd),(pI er)]),some (.row 78 R.length ((R.map rwE).flatten))]:=by
 subst Al;exact FMM.fi 4 gE func176 [bT,bT,bT,bT] (gc (eY h1) (A2 (dC h0) gn))
theorem bUw{R:List (List Cel)}(h0:e=0)(h1:er=0)(Al:r0=(e == 0)):FMM Tp 176 [(pI fd),(pI er),(.ptr 0 0),(.ptr 1 0)] [some (.box 156 [(.ptr 2 0)]),some (.box 3 [(pI ln)]),some (.box 158 [(pI k),(.own 3),(pI l),(pI f),(pI e)]),some (.row 78 R.length ((R.map rwE).flatten))] (pB r0) [some (.box 156 [(.ptr 2 0)]),some (.box 3 [(pI ln)]),some (.box 158 [(pI k),(.own 3),(pI l),(pI f),(pI e)]),some (.row 78 R.length ((R.map rwE).flatten))]:=by
 subst Al;exact FMM.fi 4 gE func176 [bT,bT,bT,bF] (gc (bL h1) (A2 (dC h0) gn))
theorem bUx{R:List (List Cel)}(h0:e≠0)(Al:r0=(e == 0)):FMM Tp 176 [(pI fd),(pI er),(.ptr 0 0),(.ptr 1 0)] [some (.box 156 [(.ptr 2 0)]),some (.box 3 [(pI ln)]),some (.box 158 [(pI k),(.own 3),(pI l),(pI f),(pI e)]),some (.row 78 R.length ((R.map rwE).flatten))] (pB r0) [some (.box 156 [(.ptr 2 0)]),some (.box 3 [(pI ln)]),some (.box 158 [(pI k),(.own 3),(pI l),(pI f),(pI e)]),some (.row 78 R.length ((R.map rwE).flatten))]:=by
 subst Al;exact FMM.fi 4 gE func176 [bF,bF,bF] (A2 (bJ h0) gn)
theorem fC{R:List (List Cel)}:FMM Tp 89 [(.ptr 0 0),(pI ln)] [some (.box 158 [(pI k),(.own 1),(pI l),(pI f),(pI e)]),some (.row 78 R.length ((R.map rwE).flatten))] (.fn 176 [] [(.ptr 2 0),(.ptr 3 0)]) [some (.box 158 [(pI k),(.own 1),(pI l),(pI f),(pI e)]),some (.row 78 R.length ((R.map rwE).flatten)),some (.box 156 [(.ptr 0 0)]),some (.box 3 [(pI ln)])]:=FMM.fi 2 ⟨[],[2,3],[],[]⟩ func89 [] gn
def aT(ln fd er:Int)(s:Int × Int × Int):Int × Int × Int:=if s.2.2=0∧er≠0 then (ln,fd,er) else s
theorem cP(fd er ln k l f e:Int)(R:List (List Cel)):FMM Tp 176 [.p (aB fd),.p (aB er),.ptr 0 0,.ptr 1 0] [some (.box 156 [(.ptr 2 0)]),some (.box 3 [(pI ln)]),some (.box 158 [(pI k),(.own 3),(pI l),(pI f),(pI e)]),some (.row 78 R.length ((R.map rwE).flatten))] (pB ((aT ln fd er (l,f,e)).2.2 == 0)) [some (.box 156 [(.ptr 2 0)]),some (.box 3 [(pI ln)]),some (.box 158 [(pI k),(.own 3),(pI ((aT ln fd er (l,f,e)).1)),(pI ((aT ln fd er (l,f,e)).2.1)),(pI ((aT ln fd er (l,f,e)).2.2))]),some (.row 78 R.length ((R.map rwE).flatten))]:=by
 unfold aT
 by_cases h:e=0
 ·by_cases h2:er=0
  ·rw [if_neg (by simp [h2])];exact bUw h h2 rfl
  ·rw [if_pos ⟨h,h2⟩];exact bUv h h2 rfl
 ·rw [if_neg (by simp [h])];exact bUx h rfl
def dS(s:List UInt8)(i:Nat):St:=⟨fr 19 [(0,(.arr 0 0 5)),(1,(.p (aD s))),(7,(pI 5)),(8,(pI (i:Int)))],[some (.box 207 [(.p (aD ([115,116,97,114,116,115]:List UInt8))),(.p (aD ([112,97,115,115,101,115]:List UInt8))),(.p (aD ([116,97,114,103,101,116,115]:List UInt8))),(.p (aD ([106,117,100,103,101,109,101,110,116,115]:List UInt8))),(.p (aD ([99,117,112,115]:List UInt8)))])]⟩
theorem bUy{s:List UInt8}(hl0:aF Tp 1 nG (dS s 0) (.exit 0) (dS s Ap)):FMM Tp 177 [(.arr 0 0 5),(.p (aD s))] [some (.box 207 [(.p (aD ([115,116,97,114,116,115]:List UInt8))),(.p (aD ([112,97,115,115,101,115]:List UInt8))),(.p (aD ([116,97,114,103,101,116,115]:List UInt8))),(.p (aD ([106,117,100,103,101,109,101,110,116,115]:List UInt8))),(.p (aD ([99,117,112,115]:List UInt8)))])] (pI (-1)) [some (.box 207 [(.p (aD ([115,116,97,114,116,115]:List UInt8))),(.p (aD ([112,97,115,115,101,115]:List UInt8))),(.p (aD ([116,97,114,103,101,116,115]:List UInt8))),(.p (aD ([106,117,100,103,101,109,101,110,116,115]:List UInt8))),(.p (aD ([99,117,112,115]:List UInt8)))])]:=FMM.fi 1 gE func177 [hl0.k 6 (gZ cf)] (gc hl0.code gn)
theorem aAr{s:List UInt8}(hl0:aF Tp 1 nG (dS s 0) .ret (cJ (dS s Ap) [(4,(pI (Ap:Int)))])):FMM Tp 177 [(.arr 0 0 5),(.p (aD s))] [some (.box 207 [(.p (aD ([115,116,97,114,116,115]:List UInt8))),(.p (aD ([112,97,115,115,101,115]:List UInt8))),(.p (aD ([116,97,114,103,101,116,115]:List UInt8))),(.p (aD ([106,117,100,103,101,109,101,110,116,115]:List UInt8))),(.p (aD ([99,117,112,115]:List UInt8)))])] (pI (Ap:Int)) [some (.box 207 [(.p (aD ([115,116,97,114,116,115]:List UInt8))),(.p (aD ([112,97,115,115,101,115]:List UInt8))),(.p (aD ([116,97,114,103,101,116,115]:List UInt8))),(.p (aD ([106,117,100,103,101,109,101,110,116,115]:List UInt8))),(.p (aD ([99,117,112,115]:List UInt8)))])]:=FMM.fi 1 gE func177 [hl0.k 6 (gZ cf)] (gc hl0.code gn)
theorem aYc{s:List UInt8}(Ar:i=0)(h1:s=([115,116,97,114,116,115]:List UInt8))(Ai:i'=0):aA Tp 1 nG (dS s i) .ret (cJ (dS s i') [(4,(pI 0))]):=by
 subst Ar;subst Ai;exact aA.fi (gZ bt) [bT,bT] (gt ((decide (s=([115,116,97,114,116,115]:List UInt8)))=true) (decide_eq_true h1) (gc bQp (gc bQq gn)))
theorem nH{s:List UInt8}(Ar:i=0)(h1:s≠([115,116,97,114,116,115]:List UInt8))(Ai:i'=1):aA Tp 1 nG (dS s i) .normal (dS s i'):=by
 subst Ar;subst Ai;exact aA.fi (gZ cf) [bT,bF] (gt (inR 1) (by show _∧_;omega) (gt ((decide (s=([115,116,97,114,116,115]:List UInt8)))=false) (decide_eq_false h1) (gc bQp (gc bQq gn))))
theorem aYd{s:List UInt8}(Ar:i=1)(h1:s=([112,97,115,115,101,115]:List UInt8))(Ai:i'=1):aA Tp 1 nG (dS s i) .ret (cJ (dS s i') [(4,(pI 1))]):=by
 subst Ar;subst Ai;exact aA.fi (gZ bt) [bT,bT] (gt ((decide (s=([112,97,115,115,101,115]:List UInt8)))=true) (decide_eq_true h1) (gc bQr (gc bQs gn)))
theorem rL{s:List UInt8}(Ar:i=1)(h1:s≠([112,97,115,115,101,115]:List UInt8))(Ai:i'=2):aA Tp 1 nG (dS s i) .normal (dS s i'):=by
 subst Ar;subst Ai;exact aA.fi (gZ cf) [bT,bF] (gt (inR 2) (by show _∧_;omega) (gt ((decide (s=([112,97,115,115,101,115]:List UInt8)))=false) (decide_eq_false h1) (gc bQr (gc bQs gn))))
theorem aYe{s:List UInt8}(Ar:i=2)(h1:s=([116,97,114,103,101,116,115]:List UInt8))(Ai:i'=2):aA Tp 1 nG (dS s i) .ret (cJ (dS s i') [(4,(pI 2))]):=by
 subst Ar;subst Ai;exact aA.fi (gZ bt) [bT,bT] (gt ((decide (s=([116,97,114,103,101,116,115]:List UInt8)))=true) (decide_eq_true h1) (gc bQt (gc bQu gn)))
theorem wA{s:List UInt8}(Ar:i=2)(h1:s≠([116,97,114,103,101,116,115]:List UInt8))(Ai:i'=3):aA Tp 1 nG (dS s i) .normal (dS s i'):=by
 subst Ar;subst Ai;exact aA.fi (gZ cf) [bT,bF] (gt (inR 3) (by show _∧_;omega) (gt ((decide (s=([116,97,114,103,101,116,115]:List UInt8)))=false) (decide_eq_false h1) (gc bQt (gc bQu gn))))
theorem aYf{s:List UInt8}(Ar:i=3)(h1:s=([106,117,100,103,101,109,101,110,116,115]:List UInt8))(Ai:i'=3):aA Tp 1 nG (dS s i) .ret (cJ (dS s i') [(4,(pI 3))]):=by
 subst Ar;subst Ai;exact aA.fi (gZ bt) [bT,bT] (gt ((decide (s=([106,117,100,103,101,109,101,110,116,115]:List UInt8)))=true) (decide_eq_true h1) (gc bQv (gc bQw gn)))
theorem aEa{s:List UInt8}(Ar:i=3)(h1:s≠([106,117,100,103,101,109,101,110,116,115]:List UInt8))(Ai:i'=4):aA Tp 1 nG (dS s i) .normal (dS s i'):=by
 subst Ar;subst Ai;exact aA.fi (gZ cf) [bT,bF] (gt (inR 4) (by show _∧_;omega) (gt ((decide (s=([106,117,100,103,101,109,101,110,116,115]:List UInt8)))=false) (decide_eq_false h1) (gc bQv (gc bQw gn))))
theorem aYg{s:List UInt8}(Ar:i=4)(h1:s=([99,117,112,115]:List UInt8))(Ai:i'=4):aA Tp 1 nG (dS s i) .ret (cJ (dS s i') [(4,(pI 4))]):=by
 subst Ar;subst Ai;exact aA.fi (gZ bt) [bT,bT] (gt ((decide (s=([99,117,112,115]:List UInt8)))=true) (decide_eq_true h1) (gc bQx (gc bQy gn)))
theorem aYh{s:List UInt8}(Ar:i=4)(h1:s≠([99,117,112,115]:List UInt8))(Ai:i'=5):aA Tp 1 nG (dS s i) .normal (dS s i'):=by
 subst Ar;subst Ai;exact aA.fi (gZ cf) [bT,bF] (gt (inR 5) (by show _∧_;omega) (gt ((decide (s=([99,117,112,115]:List UInt8)))=false) (decide_eq_false h1) (gc bQx (gc bQy gn))))
theorem aOn{s:List UInt8}(Ar:i=5)(Ai:i'=5):aA Tp 1 nG (dS s i) (.exit 0) (dS s i'):=by
 subst Ar;subst Ai;exact aA.fi (gZ cf) [bF] (gt ((decide ((5:Int)<5))=false) (by first | decide | simp) gn)
def eR(s:List UInt8):Int:=if s=([115,116,97,114,116,115]:List UInt8) then 0 else if s=([112,97,115,115,101,115]:List UInt8) then 1 else if s=([116,97,114,103,101,116,115]:List UInt8) then 2 else if s=([106,117,100,103,101,109,101,110,116,115]:List UInt8) then 3 else if s=([99,117,112,115]:List UInt8) then 4 else -1
theorem bHf(s:List UInt8):FMM Tp 177 [.arr 0 0 5,.p (aD s)] [some (.box 207 [(.p (aD ([115,116,97,114,116,115]:List UInt8))),(.p (aD ([112,97,115,115,101,115]:List UInt8))),(.p (aD ([116,97,114,103,101,116,115]:List UInt8))),(.p (aD ([106,117,100,103,101,109,101,110,116,115]:List UInt8))),(.p (aD ([99,117,112,115]:List UInt8)))])] (pI (eR s)) [some (.box 207 [(.p (aD ([115,116,97,114,116,115]:List UInt8))),(.p (aD ([112,97,115,115,101,115]:List UInt8))),(.p (aD ([116,97,114,103,101,116,115]:List UInt8))),(.p (aD ([106,117,100,103,101,109,101,110,116,115]:List UInt8))),(.p (aD ([99,117,112,115]:List UInt8)))])]:=by
 unfold eR
 by_cases h0:s=([115,116,97,114,116,115]:List UInt8)
 ·rw [if_pos h0];exact aAr (Ap:=0) (.exit (aYc rfl h0 rfl) (by simp))
 ·rw [if_neg h0]
  by_cases h1:s=([112,97,115,115,101,115]:List UInt8)
  ·rw [if_pos h1];exact aAr (Ap:=1) (.step (nH rfl h0 rfl) (.exit (aYd rfl h1 rfl) (by simp)))
  ·rw [if_neg h1]
   by_cases h2:s=([116,97,114,103,101,116,115]:List UInt8)
   ·rw [if_pos h2];exact aAr (Ap:=2) (.step (nH rfl h0 rfl) (.step (rL rfl h1 rfl) (.exit (aYe rfl h2 rfl) (by simp))))
   ·rw [if_neg h2]
    by_cases h3:s=([106,117,100,103,101,109,101,110,116,115]:List UInt8)
    ·rw [if_pos h3];exact aAr (Ap:=3) (.step (nH rfl h0 rfl) (.step (rL rfl h1 rfl) (.step (wA rfl h2 rfl) (.exit (aYf rfl h3 rfl) (by simp)))))
    ·rw [if_neg h3]
     by_cases h4:s=([99,117,112,115]:List UInt8)
     ·rw [if_pos h4];exact aAr (Ap:=4) (.step (nH rfl h0 rfl) (.step (rL rfl h1 rfl) (.step (wA rfl h2 rfl) (.step (aEa rfl h3 rfl) (.exit (aYg rfl h4 rfl) (by simp))))))
     ·rw [if_neg h4];exact bUy (.step (nH rfl h0 rfl) (.step (rL rfl h1 rfl) (.step (wA rfl h2 rfl) (.step (aEa rfl h3 rfl) (.step (aYh rfl h4 rfl) (.exit (aOn rfl rfl) (by simp)))))))
end
section
variable {k e1 f1 kd l1 ln my B7 Cc H8 Ce H9:Int}{i i':Nat}

noncomputable abbrev jX:Code:=sub (cd Tryz.f90) [1,0,1,1,1,0,1,0,0]
theorem bGo:(decide ((0:Int)<3))=true:=by first | decide | simp
theorem bGp:(decide ((1:Int)<3))=true:=by first | decide | simp
theorem bGq:(decide ((2:Int)<3))=true:=by first | decide | simp
theorem bQo:(decide ((3:Int)<3))=false:=by first | decide | simp
theorem aRt:inR (1:Int):=by unfold inR;omega
theorem aRu:inR (2:Int):=by unfold inR;omega
theorem aRv:inR (3:Int):=by unfold inR;omega
theorem bGr:(decide ((0:Int)<4))=true:=by first | decide | simp
theorem bGs:(decide ((1:Int)<4))=true:=by first | decide | simp
theorem bGt:(decide ((2:Int)<4))=true:=by first | decide | simp
theorem aOg:inR (4:Int):=by unfold inR;omega
theorem bGu:((0:Int) == 0)=true:=by first | decide | simp
theorem bGv:((1:Int) == 1)=true:=by first | decide | simp
theorem bGw:((1:Int) == 0)=false:=by first | decide | simp
theorem bGx:((2:Int) == 2)=true:=by first | decide | simp
theorem bGy:((2:Int) == 1)=false:=by first | decide | simp
theorem bGz:((2:Int) == 0)=false:=by first | decide | simp
theorem bHa:((3:Int) == 2)=false:=by first | decide | simp
theorem bHb:((3:Int) == 1)=false:=by first | decide | simp
theorem bHc:((3:Int) == 0)=false:=by first | decide | simp
theorem bHd:(decide ((3:Int)<4))=true:=by first | decide | simp
def cY(fs:List (List UInt8))(ln k:Int)(R:List (List Cel))(i:Nat)(kd my l1 f1 e1:Int):St:=⟨fr 70 [(0,(.ptr 0 0)),(1,(.p (.sl fs.length ((fs.map stE).flatten)))),(2,(.fn 176 [] [(.ptr 2 0),(.ptr 3 0)])),(6,(pI 0)),(7,(.ptr 4 0)),(8,(pI kd)),(9,(pI my)),(13,(pI (i:Int)))],[some (.box 158 [(pI k),(.own 1),(pI l1),(pI f1),(pI e1)]),some (.row 78 R.length ((R.map rwE).flatten)),some (.box 156 [(.ptr 0 0)]),some (.box 3 [(pI ln)]),some (.box 207 [(.p (aD ([115,116,97,114,116,115]:List UInt8))),(.p (aD ([112,97,115,115,101,115]:List UInt8))),(.p (aD ([116,97,114,103,101,116,115]:List UInt8))),(.p (aD ([106,117,100,103,101,109,101,110,116,115]:List UInt8))),(.p (aD ([99,117,112,115]:List UInt8)))])]⟩
theorem qD{fs:List (List UInt8)}{l f e:Int}{R:List (List Cel)}{Ap:Nat}{Ja Kr l1'3 f1'4 e1'5 r0:Int}(hl0:aF Tp 4 jX (cY fs ln k R 0 (-1) 0 l f e) (.exit 0) (cY fs ln k R Ap Ja Kr l1'3 f1'4 e1'5))(Al:r0=(if Ja > 0 then Ja else 0)):FMM Tp 90 [(.ptr 0 0),(.p (.sl fs.length ((fs.map stE).flatten))),(.fn 176 [] [(.ptr 2 0),(.ptr 3 0)])] [some (.box 158 [(pI k),(.own 1),(pI l),(pI f),(pI e)]),some (.row 78 R.length ((R.map rwE).flatten)),some (.box 156 [(.ptr 0 0)]),some (.box 3 [(pI ln)])] (pI Kr) [some (.box 158 [(pI r0),(.own 1),(pI l1'3),(pI f1'4),(pI e1'5)]),some (.row 78 R.length ((R.map rwE).flatten)),some (.box 156 [(.ptr 0 0)]),some (.box 3 [(pI ln)])]:=by
 subst Al;have k1:=fk 4 (kJ) rfl;exact FMM.fi 4 gE func90 [k1.o,hl0.k 7 (gI bm [4])] (gc hl0.code (gc k1 gn))
theorem aXw{fs:List (List UInt8)}{R:List (List Cel)}(Ar:i=0)(h1:(fs.length:Int)≤0)(Ai:i'=0)(A5:Ce=((aT ln 1 11 (l1,f1,e1)).1))(A6:Cc=((aT ln 1 11 (l1,f1,e1)).2.1))(A7:B7=((aT ln 1 11 (l1,f1,e1)).2.2)):aA Tp 4 jX (cY fs ln k R i kd my l1 f1 e1) (.exit 0) (cY fs ln k R i' kd my Ce Cc B7):=by
 subst Ar;subst Ai A5 A6 A7;have k1:=mq cn 5 (cP 1 11 ln k l1 f1 e1 R);exact aA.fi (gI bm [4]) (rT 7++[k1.o]) (gc k1 (gc aRt (gc (mR h1) (Cg bGo (gc bGr gn)))))
section
variable{fs:List (List UInt8)}{Aa:List UInt8}(Ar:i=0)(h1:(0:Int)<(fs.length:Int))(h2:fs[0]? = some (Aa))
include Ar h1 h2
theorem aXx{R:List (List Cel)}(h3:Aa≠([107,108,105,115,116,101,114]:List UInt8))(h4:((aT ln 1 11 (l1,f1,e1)).2.2)≠0)(Ai:i'=0)(A5:Ce=((aT ln 1 11 (l1,f1,e1)).1))(A6:Cc=((aT ln 1 11 (l1,f1,e1)).2.1))(A7:B7=((aT ln 1 11 (l1,f1,e1)).2.2)):aA Tp 4 jX (cY fs ln k R i kd my l1 f1 e1) (.exit 0) (cY fs ln k R i' kd my Ce Cc B7):=by
 subst Ar;subst Ai A5 A6 A7;have k1:=mq cn 5 (cP 1 11 ln k l1 f1 e1 R);exact aA.fi (gI bm [4]) (rT 6++[bF,bT,.x (aD Aa),bT,k1.o,bT]) (gc (dB (bJ h4)) (gc k1 (gc aRt (gc (dB (decide_eq_false h3)) (gt (((fs.map stE).flatten)[0]? = some (aD Aa)) (aL (E:=stE) (i:=0) (f:=0) (k:=1) (fun _=>rfl) h2 rfl) (gc (bB (E:=stE) (k:=1) (i:=(0:Int)) (fun _=>rfl) (by decide) (by first | decide | simp) h2) (gc bGu (gc (eL h1) (Cg bGo (gc bGr gn))))))))))
theorem aXy{R:List (List Cel)}(h3:Aa=([107,108,105,115,116,101,114]:List UInt8))(h4:((aT ln 1 0 (l1,f1,e1)).2.2)=0)(Ai:i'=1)(A5:Ce=((aT ln 1 0 (l1,f1,e1)).1))(A6:Cc=((aT ln 1 0 (l1,f1,e1)).2.1))(A7:B7=((aT ln 1 0 (l1,f1,e1)).2.2)):aA Tp 4 jX (cY fs ln k R i kd my l1 f1 e1) .normal (cY fs ln k R i' kd my Ce Cc B7):=by
 subst Ar;subst Ai A5 A6 A7;have k1:=mq cn 5 (cP 1 0 ln k l1 f1 e1 R);exact aA.fi (gI bm [4]) (rT 6++[bF,bT,.x (aD Aa),bF,k1.o,bF]) (gc aRt (gc (aW (dC h4)) (gc k1 (gc aRt (gc (aW (decide_eq_true h3)) (gt (((fs.map stE).flatten)[0]? = some (aD Aa)) (aL (E:=stE) (i:=0) (f:=0) (k:=1) (fun _=>rfl) h2 rfl) (gc (bB (E:=stE) (k:=1) (i:=(0:Int)) (fun _=>rfl) (by decide) (by first | decide | simp) h2) (gc bGu (gc (eL h1) (Cg bGo (gc bGr gn)))))))))))
end
theorem aXz{fs:List (List UInt8)}{R:List (List Cel)}(Ar:i=1)(h1:(fs.length:Int)≤1)(Ai:i'=1)(A5:Ce=((aT ln 2 11 (l1,f1,e1)).1))(A6:Cc=((aT ln 2 11 (l1,f1,e1)).2.1))(A7:B7=((aT ln 2 11 (l1,f1,e1)).2.2)):aA Tp 4 jX (cY fs ln k R i kd my l1 f1 e1) (.exit 0) (cY fs ln k R i' kd my Ce Cc B7):=by
 subst Ar;subst Ai A5 A6 A7;have k1:=mq cn 5 (cP 2 11 ln k l1 f1 e1 R);exact aA.fi (gI bm [4]) (rT 7++[k1.o]) (gc k1 (gc aRu (gc (mR h1) (Cg bGp (gc bGs gn)))))
section
variable{fs:List (List UInt8)}{Aa:List UInt8}(Ar:i=1)(h1:(1:Int)<(fs.length:Int))(h2:fs[1]? = some (Aa))
include Ar h1 h2
theorem aYa{R:List (List Cel)}(h3:(eR Aa)<0)(h4:((aT ln 2 12 (l1,f1,e1)).2.2)≠0)(Ai:i'=1)(Fu:H8=(eR Aa))(A5:Ce=((aT ln 2 12 (l1,f1,e1)).1))(A6:Cc=((aT ln 2 12 (l1,f1,e1)).2.1))(A7:B7=((aT ln 2 12 (l1,f1,e1)).2.2)):aA Tp 4 jX (cY fs ln k R i kd my l1 f1 e1) (.exit 0) (cY fs ln k R i' H8 my Ce Cc B7):=by
 subst Ar;subst Ai Fu A5 A6 A7;have k1:=mq [4] 5 (bHf Aa);have k2:=mq cn 5 (cP 2 12 ln k l1 f1 e1 R);exact aA.fi (gI bm [4]) (rT 6++[bF,bF,bT,.x (aD Aa),k1.o,bT,k2.o,bT]) (gc (dB (bJ h4)) (gc k2 (gc aRu (gc (cN h3) (gc k1 (gt (((fs.map stE).flatten)[1]? = some (aD Aa)) (aL (E:=stE) (i:=1) (f:=0) (k:=1) (fun _=>rfl) h2 rfl) (gc (bB (E:=stE) (k:=1) (i:=(1:Int)) (fun _=>rfl) (by decide) (by first | decide | simp) h2) (gt (0≤(0:Int)∧(0:Int)≤5∧(5:Int)≤5∧5≤maxLen) (by unfold maxLen;omega) (gc bGv (gc bGw (gc (eL h1) (Cg bGp (gc bGs gn)))))))))))))
theorem aYb{R:List (List Cel)}(h3:(0:Int)≤(eR Aa))(h4:((aT ln 2 0 (l1,f1,e1)).2.2)=0)(Ai:i'=2)(Fu:H8=(eR Aa))(A5:Ce=((aT ln 2 0 (l1,f1,e1)).1))(A6:Cc=((aT ln 2 0 (l1,f1,e1)).2.1))(A7:B7=((aT ln 2 0 (l1,f1,e1)).2.2)):aA Tp 4 jX (cY fs ln k R i kd my l1 f1 e1) .normal (cY fs ln k R i' H8 my Ce Cc B7):=by
 subst Ar;subst Ai Fu A5 A6 A7;have k1:=mq [4] 5 (bHf Aa);have k2:=mq cn 5 (cP 2 0 ln k l1 f1 e1 R);exact aA.fi (gI bm [4]) (rT 6++[bF,bF,bT,.x (aD Aa),k1.o,bF,k2.o,bF]) (gc aRu (gc (aW (dC h4)) (gc k2 (gc aRu (gc (bH h3) (gc k1 (gt (((fs.map stE).flatten)[1]? = some (aD Aa)) (aL (E:=stE) (i:=1) (f:=0) (k:=1) (fun _=>rfl) h2 rfl) (gc (bB (E:=stE) (k:=1) (i:=(1:Int)) (fun _=>rfl) (by decide) (by first | decide | simp) h2) (gt (0≤(0:Int)∧(0:Int)≤5∧(5:Int)≤5∧5≤maxLen) (by unfold maxLen;omega) (gc bGv (gc bGw (gc (eL h1) (Cg bGp (gc bGs gn))))))))))))))
end
theorem aOh{fs:List (List UInt8)}{R:List (List Cel)}(Ar:i=2)(h1:(fs.length:Int)≤2)(Ai:i'=2)(A5:Ce=((aT ln 3 11 (l1,f1,e1)).1))(A6:Cc=((aT ln 3 11 (l1,f1,e1)).2.1))(A7:B7=((aT ln 3 11 (l1,f1,e1)).2.2)):aA Tp 4 jX (cY fs ln k R i kd my l1 f1 e1) (.exit 0) (cY fs ln k R i' kd my Ce Cc B7):=by
 subst Ar;subst Ai A5 A6 A7;have k1:=mq cn 5 (cP 3 11 ln k l1 f1 e1 R);exact aA.fi (gI bm [4]) (rT 7++[k1.o]) (gc k1 (gc aRv (gc (mR h1) (Cg bGq (gc bGt gn)))))
section
variable{fs:List (List UInt8)}{Aa:List UInt8}(Ar:i=2)(h1:(2:Int)<(fs.length:Int))(h2:fs[2]? = some (Aa))(h3:0≤(200:Int)∧(200:Int)≤1000000000)
include Ar h1 h2 h3
theorem aOi{R:List (List Cel)}(h4:((aT ln 3 ((bN Aa 200).2) (l1,f1,e1)).2.2)≠0)(Ai:i'=2)(Fv:H9=((bN Aa 200).1))(A5:Ce=((aT ln 3 ((bN Aa 200).2) (l1,f1,e1)).1))(A6:Cc=((aT ln 3 ((bN Aa 200).2) (l1,f1,e1)).2.1))(A7:B7=((aT ln 3 ((bN Aa 200).2) (l1,f1,e1)).2.2)):aA Tp 4 jX (cY fs ln k R i kd my l1 f1 e1) (.exit 0) (cY fs ln k R i' kd H9 Ce Cc B7):=by
 subst Ar;subst Ai Fv A5 A6 A7;have k1:=fk 5 (gG Aa 200 h3) rfl;have k2:=mq cn 5 (cP 3 ((bN Aa 200).2) ln k l1 f1 e1 R);exact aA.fi (gI bm [4]) (rT 6++[bF,bF,bF,bT,.x (aD Aa),k1.o,k2.o,bT]) (gc (dB (bJ h4)) (gc k2 (gc aRv (gc k1 (gt (((fs.map stE).flatten)[2]? = some (aD Aa)) (aL (E:=stE) (i:=2) (f:=0) (k:=1) (fun _=>rfl) h2 rfl) (gc (bB (E:=stE) (k:=1) (i:=(2:Int)) (fun _=>rfl) (by decide) (by first | decide | simp) h2) (gc bGx (gc bGy (gc bGz (gc (eL h1) (Cg bGq (gc bGt gn))))))))))))
theorem aOj{R:List (List Cel)}(h4:((aT ln 3 ((bN Aa 200).2) (l1,f1,e1)).2.2)=0)(Ai:i'=3)(Fv:H9=((bN Aa 200).1))(A5:Ce=((aT ln 3 ((bN Aa 200).2) (l1,f1,e1)).1))(A6:Cc=((aT ln 3 ((bN Aa 200).2) (l1,f1,e1)).2.1))(A7:B7=((aT ln 3 ((bN Aa 200).2) (l1,f1,e1)).2.2)):aA Tp 4 jX (cY fs ln k R i kd my l1 f1 e1) .normal (cY fs ln k R i' kd H9 Ce Cc B7):=by
 subst Ar;subst Ai Fv A5 A6 A7;have k1:=fk 5 (gG Aa 200 h3) rfl;have k2:=mq cn 5 (cP 3 ((bN Aa 200).2) ln k l1 f1 e1 R);exact aA.fi (gI bm [4]) (rT 6++[bF,bF,bF,bT,.x (aD Aa),k1.o,k2.o,bF]) (gc aRv (gc (aW (dC h4)) (gc k2 (gc aRv (gc k1 (gt (((fs.map stE).flatten)[2]? = some (aD Aa)) (aL (E:=stE) (i:=2) (f:=0) (k:=1) (fun _=>rfl) h2 rfl) (gc (bB (E:=stE) (k:=1) (i:=(2:Int)) (fun _=>rfl) (by decide) (by first | decide | simp) h2) (gc bGx (gc bGy (gc bGz (gc (eL h1) (Cg bGq (gc bGt gn)))))))))))))
end
theorem aOk{fs:List (List UInt8)}{R:List (List Cel)}(Ar:i=3)(h1:(3:Int)<(fs.length:Int))(h2:((aT ln 4 11 (l1,f1,e1)).2.2)≠0)(Ai:i'=3)(A5:Ce=((aT ln 4 11 (l1,f1,e1)).1))(A6:Cc=((aT ln 4 11 (l1,f1,e1)).2.1))(A7:B7=((aT ln 4 11 (l1,f1,e1)).2.2)):aA Tp 4 jX (cY fs ln k R i kd my l1 f1 e1) (.exit 0) (cY fs ln k R i' kd my Ce Cc B7):=by
 subst Ar;subst Ai A5 A6 A7;have k1:=mq cn 5 (cP 4 11 ln k l1 f1 e1 R);exact aA.fi (gI bm [4]) ([bT]++rF 8++[bT,k1.o,bT]) (gc (dB (bJ h2)) (gc k1 (gc aOg (gc (cN h1) (gc bHa (gc bHb (gc bHc (Cg bQo (gc bHd gn)))))))))
theorem aOl{fs:List (List UInt8)}{R:List (List Cel)}(Ar:i=3)(h1:(fs.length:Int)≤3)(h2:((aT ln 4 0 (l1,f1,e1)).2.2)=0)(Ai:i'=4)(A5:Ce=((aT ln 4 0 (l1,f1,e1)).1))(A6:Cc=((aT ln 4 0 (l1,f1,e1)).2.1))(A7:B7=((aT ln 4 0 (l1,f1,e1)).2.2)):aA Tp 4 jX (cY fs ln k R i kd my l1 f1 e1) .normal (cY fs ln k R i' kd my Ce Cc B7):=by
 subst Ar;subst Ai A5 A6 A7;have k1:=mq cn 5 (cP 4 0 ln k l1 f1 e1 R);exact aA.fi (gI bm [4]) ([bT]++rF 9++[k1.o,bF]) (gc aOg (gc (aW (dC h2)) (gc k1 (gc aOg (gc (bH h1) (gc bHa (gc bHb (gc bHc (Cg bQo (gc bHd gn))))))))))
theorem aOm{fs:List (List UInt8)}{R:List (List Cel)}(Ar:i=4)(Ai:i'=4):aA Tp 4 jX (cY fs ln k R i kd my l1 f1 e1) (.exit 0) (cY fs ln k R i' kd my l1 f1 e1):=by
 subst Ar;subst Ai;exact aA.fi (gI bm [4]) [bF] (gt ((decide ((4:Int)<4))=false) (by first | decide | simp) gn)
def fld(fs:List (List UInt8))(j:Nat):List UInt8:=(fs[j]?).getD []
theorem aAq{fs:List (List UInt8)}{j:Nat}(h:j<fs.length):fs[j]? = some (fld fs j):=by
 unfold fld;rw [Bw h];rfl
def hdM(fs:List (List UInt8)):Int × Int × Int × Int :=
 if fs.length=0∨fld fs 0≠[107,108,105,115,116,101,114] then (-1,0,1,11)
 else if fs.length=1 then (-1,0,2,11)
 else if eR (fld fs 1)<0 then (eR (fld fs 1),0,2,12)
 else if fs.length=2 then (eR (fld fs 1),0,3,11)
 else if (bN (fld fs 2) 200).2≠0 then (eR (fld fs 1),(bN (fld fs 2) 200).1,3,(bN (fld fs 2) 200).2)
 else if 3<fs.length then (eR (fld fs 1),(bN (fld fs 2) 200).1,4,11)
 else (eR (fld fs 1),(bN (fld fs 2) 200).1,0,0)
theorem Iq(ln fd l f:Int):aT ln fd 0 (l,f,0)=(l,f,0):=rfl
theorem Eu{er:Int}(ln fd l f:Int)(h:er≠0):aT ln fd er (l,f,0)=(ln,fd,er):=if_pos ⟨rfl,h⟩
def Dn(k:Int):Int:=if k > 0 then k else 0
theorem bHe (fs:List (List UInt8)) (ln k l f:Int) (R:List (List Cel)):FMM Tp 90 [.ptr 0 0,.p (.sl fs.length ((fs.map stE).flatten)),.fn 176 [] [.ptr 2 0,.ptr 3 0]] [some (.box 158 [(pI k),(.own 1),(pI l),(pI f),(pI 0)]),some (.row 78 R.length ((R.map rwE).flatten)),some (.box 156 [(.ptr 0 0)]),some (.box 3 [(pI ln)])]
  (.p (aB (hdM fs).2.1)) [some (.box 158 [(pI (Dn (hdM fs).1)),(.own 1),(pI ((aT ln (hdM fs).2.2.1 (hdM fs).2.2.2 (l,f,0)).1)),(pI ((aT ln (hdM fs).2.2.1 (hdM fs).2.2.2 (l,f,0)).2.1)),(pI ((aT ln (hdM fs).2.2.1 (hdM fs).2.2.2 (l,f,0)).2.2))]),some (.row 78 R.length ((R.map rwE).flatten)),some (.box 156 [(.ptr 0 0)]),some (.box 3 [(pI ln)])]:=by
 have t1:∀ fd er,er≠0→aT ln fd er (l,f,0)=(ln,fd,er):=fun fd er h=>Eu ln fd l f h
 have a0:∀ fd,l=(aT ln fd 0 (l,f,0)).1:=fun _=>rfl
 unfold hdM
 by_cases h0:fs.length=0
 ·rw [if_pos (.inl h0)]
  exact qD (.exit (aXw rfl (by omega) rfl rfl rfl rfl) (by simp)) rfl
 ·have f0:=aAq (fs:=fs) (j:=0) (by omega)
  by_cases h1:fld fs 0=[107,108,105,115,116,101,114]
  ·rw [if_neg (by simp [h0,h1])]
   have s0:aA Tp 4 jX (cY fs ln k R 0 (-1) 0 l f 0) .normal (cY fs ln k R 1 (-1) 0 l f 0):=aXy rfl (by omega) f0 h1 rfl rfl rfl rfl rfl
   by_cases h2:fs.length=1
   ·rw [if_pos h2]
    exact qD (.step s0 (.exit (aXz rfl (by omega) rfl rfl rfl rfl) (by simp))) rfl
   ·rw [if_neg h2]
    have f1:=aAq (fs:=fs) (j:=1) (by omega)
    by_cases h3:eR (fld fs 1)<0
    ·rw [if_pos h3]
     exact qD (.step s0 (.exit (aYa rfl (by omega) f1 h3 (by rw [t1 _ _ (by decide)];simp) rfl rfl rfl rfl rfl) (by simp))) rfl
    ·rw [if_neg h3]
     have s1:aA Tp 4 jX (cY fs ln k R 1 (-1) 0 l f 0) .normal (cY fs ln k R 2 (eR (fld fs 1)) 0 l f 0):=aYb rfl (by omega) f1 (by omega) rfl rfl rfl rfl rfl rfl
     by_cases h4:fs.length=2
     ·rw [if_pos h4]
      exact qD (.step s0 (.step s1 (.exit (aOh rfl (by omega) rfl rfl rfl rfl) (by simp)))) rfl
     ·rw [if_neg h4]
      have f2:=aAq (fs:=fs) (j:=2) (by omega)
      by_cases h5:(bN (fld fs 2) 200).2=0
      ·rw [if_neg (by simp [h5])]
       have s2:aA Tp 4 jX (cY fs ln k R 2 (eR (fld fs 1)) 0 l f 0) .normal (cY fs ln k R 3 (eR (fld fs 1)) (bN (fld fs 2) 200).1 l f 0):=aOj rfl (by omega) f2 (by omega) (by rw [h5];rfl) rfl rfl (by rw [h5];rfl) (by rw [h5];rfl) (by rw [h5];rfl)
       by_cases h6:3<fs.length
       ·rw [if_pos h6]
        exact qD (.step s0 (.step s1 (.step s2 (.exit (aOk rfl (by omega) (by rw [t1 _ _ (by decide)];simp) rfl rfl rfl rfl) (by simp))))) rfl
       ·rw [if_neg h6]
        have s3:aA Tp 4 jX (cY fs ln k R 3 (eR (fld fs 1)) (bN (fld fs 2) 200).1 l f 0) .normal (cY fs ln k R 4 (eR (fld fs 1)) (bN (fld fs 2) 200).1 l f 0):=aOl rfl (by omega) rfl rfl rfl rfl rfl
        exact qD (.step s0 (.step s1 (.step s2 (.step s3 (.exit (aOm rfl rfl) (by simp)))))) rfl
      ·rw [if_pos h5]
       have e:=t1 3 _ h5;have:=qD (fs:=fs) (ln:=ln) (k:=k) (l:=l) (f:=f) (e:=0) (R:=R) (.step s0 (.step s1 (.exit (aOi rfl (by omega) f2 (by omega) (by rw [e];exact h5) rfl rfl rfl rfl rfl) (by simp)))) rfl
       rw [e] at this
       have e2:=t1 3 _ h5;dsimp only at this ⊢
       rw [e2];exact this
  ·rw [if_pos (.inr h1)]
   exact qD (.exit (aXx rfl (by omega) f0 h1 (by rw [t1 _ _ (by decide)];simp) rfl rfl rfl rfl) (by simp)) rfl
end
section
variable {e f k l e1 f1 l1 ln r0 r1 r2 sm B7 Cc Ce e1'4 f1'3 l1'2:Int}{i i' Ap:Nat}

noncomputable abbrev jW:Code:=sub (cd Tryz.f91) [1,1,1,1,0,1,0,0]
theorem bQk:0≤(0:Int)∧(0:Int)<4:=by first | decide | simp
theorem bQl:0≤(1:Int)∧(1:Int)<4:=by first | decide | simp
theorem bQm:0≤(2:Int)∧(2:Int)<4:=by first | decide | simp
theorem bQn:0≤(3:Int)∧(3:Int)<4:=by first | decide | simp
def cX(fs:List (List UInt8))(ln k:Int)(R:List (List Cel))(i on:Nat)(oc:List PV)(l1 f1 e1:Int):St:=⟨fr 77 [(0,(.ptr 0 0)),(1,(.p (.sl fs.length ((fs.map stE).flatten)))),(2,(.fn 176 [] [(.ptr 2 0),(.ptr 3 0)])),(8,(.p (bD (aJ k)))),(10,(.ptr 4 0)),(11,(.own 5)),(26,(pI ((aJ k).length:Int))),(27,(pI (i:Int)))],[some (.box 158 [(pI k),(.own 1),(pI l1),(pI f1),(pI e1)]),some (.row 78 R.length ((R.map rwE).flatten)),some (.box 156 [(.ptr 0 0)]),some (.box 3 [(pI ln)]),some (.box 214 [(.fn 224 [] [(.rp [(PV.fn 188 [] [])] 0)]),(.fn 225 [] [(.rp [(PV.fn 120 [] [])] 0)]),(.fn 226 [] [(.rp [(aB 999999)] 0)]),(.fn 224 [] [(.rp [(PV.fn 39 [] [])] 0)]),(.fn 225 [] [(.rp [(PV.fn 189 [] [])] 0)]),(.fn 226 [] [(.rp [(aB 360000)] 0)]),(.fn 227 [] [(.rp [(PV.fn 191 [] [])] 0)]),(.fn 228 [] []),(.fn 229 [] [(.rp [(PV.fn 191 [] [])] 0)]),(.fn 227 [] [(.rp [(PV.fn 192 [] [])] 0)]),(.fn 228 [] []),(.fn 229 [] [(.rp [(PV.fn 192 [] [])] 0)])]),some (.row 80 on oc)]⟩
section
variable{fs:List (List UInt8)}{R:List (List Cel)}{Ak:List Cel}(hl0:aF Tp 4 jW (cX fs ln k R 0 0 [] l f e) (.exit 0) (cX fs ln k R Ap Ak.length ((Ak.map cE).flatten) l1'2 f1'3 e1'4))
include hl0
theorem bUm(h1:(fs.length:Int)=((aJ k).length:Int)):FMM Tp 91 [(.ptr 0 0),(.p (.sl fs.length ((fs.map stE).flatten))),(.fn 176 [] [(.ptr 2 0),(.ptr 3 0)])] [some (.box 158 [(pI k),(.own 1),(pI l),(pI f),(pI e)]),some (.row 78 R.length ((R.map rwE).flatten)),some (.box 156 [(.ptr 0 0)]),some (.box 3 [(pI ln)])] (.tup [(.own 4),(pB true)]) [some (.box 158 [(pI k),(.own 1),(pI l1'2),(pI f1'3),(pI e1'4)]),some (.row 78 R.length ((R.map rwE).flatten)),some (.box 156 [(.ptr 0 0)]),some (.box 3 [(pI ln)]),some (.row 80 Ak.length ((Ak.map cE).flatten))]:=have k1:=fk 4 (eT k) rfl;have k2:=fk 4 (eS) rfl;FMM.fi 4 ⟨[],[5],[],[]⟩ func91 ([k1.o,k2.o,hl0.k 6 (gN b9 [4,5] [(11,80)])]++rT 6) (G3 (dC h1) (gc hl0.code (gc k2 (gc k1 gn))))
theorem bUn{r0:Bool}{r3:Int}(h1:(fs.length:Int)≠((aJ k).length:Int))(h2:inR ((((aJ k).length+1):Nat):Int))(Al:r0=(((aT ln ((((aJ k).length+1):Nat):Int) 11 (l1'2,f1'3,e1'4)).2.2) == 0))(Dd:r1=((aT ln ((((aJ k).length+1):Nat):Int) 11 (l1'2,f1'3,e1'4)).1))(D9:r2=((aT ln ((((aJ k).length+1):Nat):Int) 11 (l1'2,f1'3,e1'4)).2.1))(Q3:r3=((aT ln ((((aJ k).length+1):Nat):Int) 11 (l1'2,f1'3,e1'4)).2.2)):FMM Tp 91 [(.ptr 0 0),(.p (.sl fs.length ((fs.map stE).flatten))),(.fn 176 [] [(.ptr 2 0),(.ptr 3 0)])] [some (.box 158 [(pI k),(.own 1),(pI l),(pI f),(pI e)]),some (.row 78 R.length ((R.map rwE).flatten)),some (.box 156 [(.ptr 0 0)]),some (.box 3 [(pI ln)])] (.tup [(.own 4),(pB r0)]) [some (.box 158 [(pI k),(.own 1),(pI r1),(pI r2),(pI r3)]),some (.row 78 R.length ((R.map rwE).flatten)),some (.box 156 [(.ptr 0 0)]),some (.box 3 [(pI ln)]),some (.row 80 Ak.length ((Ak.map cE).flatten))]:=by
 subst Al Dd D9 Q3;have k1:=fk 4 (eT k) rfl;have k2:=fk 4 (eS) rfl;have k3:=mq cn 6 (cP ((((aJ k).length+1):Nat):Int) 11 ln k l1'2 f1'3 e1'4 R);exact FMM.fi 4 ⟨[],[5],[],[]⟩ func91 ([k1.o,k2.o,hl0.k 6 (gN b9 [4,5] [(11,80)])]++rF 5++[k3.o,bF]) (gc (bJ h1) (gc k3 (gc (bJ h1) (gc h2 (Gp (bJ h1) (gc hl0.code (gc k2 (gc k1 gn))))))))
end
theorem bUo{fs:List (List UInt8)}{R:List (List Cel)}{Ak:List Cel}{r0:Bool}(hl0:aF Tp 4 jW (cX fs ln k R 0 0 [] l f e) .ret (cJ (cX fs ln k R Ap Ak.length ((Ak.map cE).flatten) l1'2 f1'3 e1'4) [(6,(.p bK)),(7,(pB (e1'4 == 0)))]))(Al:r0=(e1'4 == 0)):FMM Tp 91 [(.ptr 0 0),(.p (.sl fs.length ((fs.map stE).flatten))),(.fn 176 [] [(.ptr 2 0),(.ptr 3 0)])] [some (.box 158 [(pI k),(.own 1),(pI l),(pI f),(pI e)]),some (.row 78 R.length ((R.map rwE).flatten)),some (.box 156 [(.ptr 0 0)]),some (.box 3 [(pI ln)])] (.tup [(.p bK),(pB r0)]) [some (.box 158 [(pI k),(.own 1),(pI l1'2),(pI f1'3),(pI e1'4)]),some (.row 78 R.length ((R.map rwE).flatten)),some (.box 156 [(.ptr 0 0)]),some (.box 3 [(pI ln)])]:=by
 subst Al;have k1:=fk 4 (eT k) rfl;have k2:=fk 4 (eS) rfl;exact FMM.fi 4 gE func91 [k1.o,k2.o,hl0.k 6 (gN b9 [4,5] [(11,80)])] (gc hl0.code (gc k2 (gc k1 gn)))
theorem aXm{fs:List (List UInt8)}{R:List (List Cel)}{o:List Cel}(h0:(i:Int)<((aJ k).length:Int))(h1:(fs.length:Int)≤(i:Int))(h2:cp i)(A5:Ce=((aT ln (((i+1):Nat):Int) 11 (l1,f1,e1)).1))(A6:Cc=((aT ln (((i+1):Nat):Int) 11 (l1,f1,e1)).2.1))(A7:B7=((aT ln (((i+1):Nat):Int) 11 (l1,f1,e1)).2.2)):aA Tp 4 jW (cX fs ln k R i o.length ((o.map cE).flatten) l1 f1 e1) .ret (cJ (cX fs ln k R i o.length ((o.map cE).flatten) Ce Cc B7) [(6,(.p bK)),(7,(pB (((aT ln (((i+1):Nat):Int) 11 (l1,f1,e1)).2.2) == 0)))]):=by
 subst A5 A6 A7;have k1:=mq cn 6 (cP (((i+1):Nat):Int) 11 ln k l1 f1 e1 R);exact aA.fi (gI ba [4,5]) [bT,bT,k1.o] (gc k1 (gc h2 (gc (mR h1) (g0 h0))))
section
variable{fs:List (List UInt8)}(h0:(i:Int)<((aJ k).length:Int))(h1:(i:Int)<(fs.length:Int))
include h0 h1
theorem aXn{R:List (List Cel)}{o:List Cel}{Aa:List UInt8}(h2:(aJ k)[i]? = some 0)(h3:fs[i]? = some (Aa))(h4:cp i)(h5:((aT ln (((i+1):Nat):Int) ((rdM 0 Aa).2) (l1,f1,e1)).2.2)≠0)(A5:Ce=((aT ln (((i+1):Nat):Int) ((rdM 0 Aa).2) (l1,f1,e1)).1))(A6:Cc=((aT ln (((i+1):Nat):Int) ((rdM 0 Aa).2) (l1,f1,e1)).2.1))(A7:B7=((aT ln (((i+1):Nat):Int) ((rdM 0 Aa).2) (l1,f1,e1)).2.2)):aA Tp 4 jW (cX fs ln k R i o.length ((o.map cE).flatten) l1 f1 e1) .ret (cJ (cX fs ln k R i o.length ((o.map cE).flatten) Ce Cc B7) [(6,(.p bK)),(7,(pB false))]):=by
 subst A5 A6 A7;have k1:=fk 6 (bHn Aa) rfl;have k2:=mq cn 15 (cP (((i+1):Nat):Int) ((rdM 0 Aa).2) ln k l1 f1 e1 R);exact aA.fi (gN ba [4,5] [(7,0)]) [bT,bF,.x (aB 0),.x (aD Aa),k1.o,k2.o,bT] (gc (dB (bJ h5)) (gc k2 (gc h4 (gc k1 (gt (((fs.map stE).flatten)[(i*1)]? = some (aD Aa)) (aL (E:=stE) (i:=i) (f:=0) (k:=1) (fun _=>rfl) h3 rfl) (gc (bB (E:=stE) (k:=1) (i:=(i:Int)) (fun _=>rfl) (by decide) (Bt _) h3) (gc bQk (gc (atm aB h2) (gc (ixn aB h2) (gc (eL h1) (g0 h0)))))))))))
theorem aXo{R:List (List Cel)}{o:List Cel}{Aa:List UInt8}{o':List Cel}(h2:(aJ k)[i]? = some 0)(h3:fs[i]? = some (Aa))(h4:cp i)(h5:((aT ln (((i+1):Nat):Int) ((rdM 0 Aa).2) (l1,f1,e1)).2.2)=0)(h6:[(aB ((rdM 0 Aa).1.1)),(aD ((rdM 0 Aa).1.2))].length=1*2∧o.length+1≤1000000)(Ai:i'=(i+1))(Dj:o'.length=(o.length+1))(Dk:(o'.map cE).flatten=(((o.map cE).flatten)++[(aB ((rdM 0 Aa).1.1)),(aD ((rdM 0 Aa).1.2))]))(A5:Ce=((aT ln (((i+1):Nat):Int) ((rdM 0 Aa).2) (l1,f1,e1)).1))(A6:Cc=((aT ln (((i+1):Nat):Int) ((rdM 0 Aa).2) (l1,f1,e1)).2.1))(A7:B7=((aT ln (((i+1):Nat):Int) ((rdM 0 Aa).2) (l1,f1,e1)).2.2)):aA Tp 4 jW (cX fs ln k R i o.length ((o.map cE).flatten) l1 f1 e1) .normal (cX fs ln k R i' o'.length ((o'.map cE).flatten) Ce Cc B7):=by
 subst Ai A5 A6 A7;have k1:=fk 6 (bHn Aa) rfl;have k2:=mq cn 15 (cP (((i+1):Nat):Int) ((rdM 0 Aa).2) ln k l1 f1 e1 R);rw [Dj,Dk];exact aA.fi (gI b9 [4,16]) [bT,bF,.x (aB 0),.x (aD Aa),k1.o,k2.o,bF] (gc h4 (gc h6 (gt ([(aB ((rdM 0 Aa).1.1)),(aD ((rdM 0 Aa).1.2))].length=2) (by first | decide | simp) (gc (aW (dC h5)) (gc k2 (gc h4 (gc k1 (gt (((fs.map stE).flatten)[(i*1)]? = some (aD Aa)) (aL (E:=stE) (i:=i) (f:=0) (k:=1) (fun _=>rfl) h3 rfl) (gc (bB (E:=stE) (k:=1) (i:=(i:Int)) (fun _=>rfl) (by decide) (Bt _) h3) (gc bQk (gc (atm aB h2) (gc (ixn aB h2) (gc (eL h1) (g0 h0))))))))))))))
theorem aXp{R:List (List Cel)}{o:List Cel}{Aa:List UInt8}(h2:(aJ k)[i]? = some 1)(h3:fs[i]? = some (Aa))(h4:Aa.length≤90000)(h5:cp i)(h6:((aT ln (((i+1):Nat):Int) ((rdM 1 Aa).2) (l1,f1,e1)).2.2)≠0)(A5:Ce=((aT ln (((i+1):Nat):Int) ((rdM 1 Aa).2) (l1,f1,e1)).1))(A6:Cc=((aT ln (((i+1):Nat):Int) ((rdM 1 Aa).2) (l1,f1,e1)).2.1))(A7:B7=((aT ln (((i+1):Nat):Int) ((rdM 1 Aa).2) (l1,f1,e1)).2.2)):aA Tp 4 jW (cX fs ln k R i o.length ((o.map cE).flatten) l1 f1 e1) .ret (cJ (cX fs ln k R i o.length ((o.map cE).flatten) Ce Cc B7) [(6,(.p bK)),(7,(pB false))]):=by
 subst A5 A6 A7;have k1:=fk 6 (bHo Aa h4) rfl;have k2:=mq cn 15 (cP (((i+1):Nat):Int) ((rdM 1 Aa).2) ln k l1 f1 e1 R);exact aA.fi (gN ba [4,5] [(7,0)]) [bT,bF,.x (aB 1),.x (aD Aa),k1.o,k2.o,bT] (gc (dB (bJ h6)) (gc k2 (gc h5 (gc k1 (gt (((fs.map stE).flatten)[(i*1)]? = some (aD Aa)) (aL (E:=stE) (i:=i) (f:=0) (k:=1) (fun _=>rfl) h3 rfl) (gc (bB (E:=stE) (k:=1) (i:=(i:Int)) (fun _=>rfl) (by decide) (Bt _) h3) (gc bQl (gc (atm aB h2) (gc (ixn aB h2) (gc (eL h1) (g0 h0)))))))))))
theorem aXq{R:List (List Cel)}{o:List Cel}{Aa:List UInt8}{o':List Cel}(h2:(aJ k)[i]? = some 1)(h3:fs[i]? = some (Aa))(h4:Aa.length≤90000)(h5:cp i)(h6:((aT ln (((i+1):Nat):Int) ((rdM 1 Aa).2) (l1,f1,e1)).2.2)=0)(h7:[(aB ((rdM 1 Aa).1.1)),(aD ((rdM 1 Aa).1.2))].length=1*2∧o.length+1≤1000000)(Ai:i'=(i+1))(Dj:o'.length=(o.length+1))(Dk:(o'.map cE).flatten=(((o.map cE).flatten)++[(aB ((rdM 1 Aa).1.1)),(aD ((rdM 1 Aa).1.2))]))(A5:Ce=((aT ln (((i+1):Nat):Int) ((rdM 1 Aa).2) (l1,f1,e1)).1))(A6:Cc=((aT ln (((i+1):Nat):Int) ((rdM 1 Aa).2) (l1,f1,e1)).2.1))(A7:B7=((aT ln (((i+1):Nat):Int) ((rdM 1 Aa).2) (l1,f1,e1)).2.2)):aA Tp 4 jW (cX fs ln k R i o.length ((o.map cE).flatten) l1 f1 e1) .normal (cX fs ln k R i' o'.length ((o'.map cE).flatten) Ce Cc B7):=by
 subst Ai A5 A6 A7;have k1:=fk 6 (bHo Aa h4) rfl;have k2:=mq cn 15 (cP (((i+1):Nat):Int) ((rdM 1 Aa).2) ln k l1 f1 e1 R);rw [Dj,Dk];exact aA.fi (gI b9 [4,16]) [bT,bF,.x (aB 1),.x (aD Aa),k1.o,k2.o,bF] (gc h5 (gc h7 (gt ([(aB ((rdM 1 Aa).1.1)),(aD ((rdM 1 Aa).1.2))].length=2) (by first | decide | simp) (gc (aW (dC h6)) (gc k2 (gc h5 (gc k1 (gt (((fs.map stE).flatten)[(i*1)]? = some (aD Aa)) (aL (E:=stE) (i:=i) (f:=0) (k:=1) (fun _=>rfl) h3 rfl) (gc (bB (E:=stE) (k:=1) (i:=(i:Int)) (fun _=>rfl) (by decide) (Bt _) h3) (gc bQl (gc (atm aB h2) (gc (ixn aB h2) (gc (eL h1) (g0 h0))))))))))))))
theorem aXr{R:List (List Cel)}{o:List Cel}{Aa:List UInt8}(h2:(aJ k)[i]? = some 2)(h3:fs[i]? = some (Aa))(h4:cp i)(h5:((aT ln (((i+1):Nat):Int) ((rdM 2 Aa).2) (l1,f1,e1)).2.2)≠0)(A5:Ce=((aT ln (((i+1):Nat):Int) ((rdM 2 Aa).2) (l1,f1,e1)).1))(A6:Cc=((aT ln (((i+1):Nat):Int) ((rdM 2 Aa).2) (l1,f1,e1)).2.1))(A7:B7=((aT ln (((i+1):Nat):Int) ((rdM 2 Aa).2) (l1,f1,e1)).2.2)):aA Tp 4 jW (cX fs ln k R i o.length ((o.map cE).flatten) l1 f1 e1) .ret (cJ (cX fs ln k R i o.length ((o.map cE).flatten) Ce Cc B7) [(6,(.p bK)),(7,(pB false))]):=by
 subst A5 A6 A7;have k1:=fk 6 (bHp Aa) rfl;have k2:=mq cn 15 (cP (((i+1):Nat):Int) ((rdM 2 Aa).2) ln k l1 f1 e1 R);exact aA.fi (gN ba [4,5] [(7,0)]) [bT,bF,.x (aB 2),.x (aD Aa),k1.o,k2.o,bT] (gc (dB (bJ h5)) (gc k2 (gc h4 (gc k1 (gt (((fs.map stE).flatten)[(i*1)]? = some (aD Aa)) (aL (E:=stE) (i:=i) (f:=0) (k:=1) (fun _=>rfl) h3 rfl) (gc (bB (E:=stE) (k:=1) (i:=(i:Int)) (fun _=>rfl) (by decide) (Bt _) h3) (gc bQm (gc (atm aB h2) (gc (ixn aB h2) (gc (eL h1) (g0 h0)))))))))))
theorem aXs{R:List (List Cel)}{o:List Cel}{Aa:List UInt8}{o':List Cel}(h2:(aJ k)[i]? = some 2)(h3:fs[i]? = some (Aa))(h4:cp i)(h5:((aT ln (((i+1):Nat):Int) ((rdM 2 Aa).2) (l1,f1,e1)).2.2)=0)(h6:[(aB ((rdM 2 Aa).1.1)),(aD ((rdM 2 Aa).1.2))].length=1*2∧o.length+1≤1000000)(Ai:i'=(i+1))(Dj:o'.length=(o.length+1))(Dk:(o'.map cE).flatten=(((o.map cE).flatten)++[(aB ((rdM 2 Aa).1.1)),(aD ((rdM 2 Aa).1.2))]))(A5:Ce=((aT ln (((i+1):Nat):Int) ((rdM 2 Aa).2) (l1,f1,e1)).1))(A6:Cc=((aT ln (((i+1):Nat):Int) ((rdM 2 Aa).2) (l1,f1,e1)).2.1))(A7:B7=((aT ln (((i+1):Nat):Int) ((rdM 2 Aa).2) (l1,f1,e1)).2.2)):aA Tp 4 jW (cX fs ln k R i o.length ((o.map cE).flatten) l1 f1 e1) .normal (cX fs ln k R i' o'.length ((o'.map cE).flatten) Ce Cc B7):=by
 subst Ai A5 A6 A7;have k1:=fk 6 (bHp Aa) rfl;have k2:=mq cn 15 (cP (((i+1):Nat):Int) ((rdM 2 Aa).2) ln k l1 f1 e1 R);rw [Dj,Dk];exact aA.fi (gI b9 [4,16]) [bT,bF,.x (aB 2),.x (aD Aa),k1.o,k2.o,bF] (gc h4 (gc h6 (gt ([(aB ((rdM 2 Aa).1.1)),(aD ((rdM 2 Aa).1.2))].length=2) (by first | decide | simp) (gc (aW (dC h5)) (gc k2 (gc h4 (gc k1 (gt (((fs.map stE).flatten)[(i*1)]? = some (aD Aa)) (aL (E:=stE) (i:=i) (f:=0) (k:=1) (fun _=>rfl) h3 rfl) (gc (bB (E:=stE) (k:=1) (i:=(i:Int)) (fun _=>rfl) (by decide) (Bt _) h3) (gc bQm (gc (atm aB h2) (gc (ixn aB h2) (gc (eL h1) (g0 h0))))))))))))))
theorem aXt{R:List (List Cel)}{o:List Cel}{Aa:List UInt8}(h2:(aJ k)[i]? = some 3)(h3:fs[i]? = some (Aa))(h4:cp i)(h5:((aT ln (((i+1):Nat):Int) ((rdM 3 Aa).2) (l1,f1,e1)).2.2)≠0)(A5:Ce=((aT ln (((i+1):Nat):Int) ((rdM 3 Aa).2) (l1,f1,e1)).1))(A6:Cc=((aT ln (((i+1):Nat):Int) ((rdM 3 Aa).2) (l1,f1,e1)).2.1))(A7:B7=((aT ln (((i+1):Nat):Int) ((rdM 3 Aa).2) (l1,f1,e1)).2.2)):aA Tp 4 jW (cX fs ln k R i o.length ((o.map cE).flatten) l1 f1 e1) .ret (cJ (cX fs ln k R i o.length ((o.map cE).flatten) Ce Cc B7) [(6,(.p bK)),(7,(pB false))]):=by
 subst A5 A6 A7;have k1:=fk 6 (bHq Aa) rfl;have k2:=mq cn 15 (cP (((i+1):Nat):Int) ((rdM 3 Aa).2) ln k l1 f1 e1 R);exact aA.fi (gN ba [4,5] [(7,0)]) [bT,bF,.x (aB 3),.x (aD Aa),k1.o,k2.o,bT] (gc (dB (bJ h5)) (gc k2 (gc h4 (gc k1 (gt (((fs.map stE).flatten)[(i*1)]? = some (aD Aa)) (aL (E:=stE) (i:=i) (f:=0) (k:=1) (fun _=>rfl) h3 rfl) (gc (bB (E:=stE) (k:=1) (i:=(i:Int)) (fun _=>rfl) (by decide) (Bt _) h3) (gc bQn (gc (atm aB h2) (gc (ixn aB h2) (gc (eL h1) (g0 h0)))))))))))
theorem aXu{R:List (List Cel)}{o:List Cel}{Aa:List UInt8}{o':List Cel}(h2:(aJ k)[i]? = some 3)(h3:fs[i]? = some (Aa))(h4:cp i)(h5:((aT ln (((i+1):Nat):Int) ((rdM 3 Aa).2) (l1,f1,e1)).2.2)=0)(h6:[(aB ((rdM 3 Aa).1.1)),(aD ((rdM 3 Aa).1.2))].length=1*2∧o.length+1≤1000000)(Ai:i'=(i+1))(Dj:o'.length=(o.length+1))(Dk:(o'.map cE).flatten=(((o.map cE).flatten)++[(aB ((rdM 3 Aa).1.1)),(aD ((rdM 3 Aa).1.2))]))(A5:Ce=((aT ln (((i+1):Nat):Int) ((rdM 3 Aa).2) (l1,f1,e1)).1))(A6:Cc=((aT ln (((i+1):Nat):Int) ((rdM 3 Aa).2) (l1,f1,e1)).2.1))(A7:B7=((aT ln (((i+1):Nat):Int) ((rdM 3 Aa).2) (l1,f1,e1)).2.2)):aA Tp 4 jW (cX fs ln k R i o.length ((o.map cE).flatten) l1 f1 e1) .normal (cX fs ln k R i' o'.length ((o'.map cE).flatten) Ce Cc B7):=by
 subst Ai A5 A6 A7;have k1:=fk 6 (bHq Aa) rfl;have k2:=mq cn 15 (cP (((i+1):Nat):Int) ((rdM 3 Aa).2) ln k l1 f1 e1 R);rw [Dj,Dk];exact aA.fi (gI b9 [4,16]) [bT,bF,.x (aB 3),.x (aD Aa),k1.o,k2.o,bF] (gc h4 (gc h6 (gt ([(aB ((rdM 3 Aa).1.1)),(aD ((rdM 3 Aa).1.2))].length=2) (by first | decide | simp) (gc (aW (dC h5)) (gc k2 (gc h4 (gc k1 (gt (((fs.map stE).flatten)[(i*1)]? = some (aD Aa)) (aL (E:=stE) (i:=i) (f:=0) (k:=1) (fun _=>rfl) h3 rfl) (gc (bB (E:=stE) (k:=1) (i:=(i:Int)) (fun _=>rfl) (by decide) (Bt _) h3) (gc bQn (gc (atm aB h2) (gc (ixn aB h2) (gc (eL h1) (g0 h0))))))))))))))
end
theorem aXv{fs:List (List UInt8)}{R:List (List Cel)}{o:List Cel}(h0:((aJ k).length:Int)≤(i:Int)):aA Tp 4 jW (cX fs ln k R i o.length ((o.map cE).flatten) l1 f1 e1) (.exit 0) (cX fs ln k R i o.length ((o.map cE).flatten) l1 f1 e1):=aA.fi (gI b9 [4,5]) [bF] (gc (bH h0) gn)
theorem bUp{fs:List (List UInt8)}{R:List (List Cel)}{u0:List UInt8}(h0:fs[0]? = some (u0))(h1:u0≠([115,117,109]:List UInt8))(Al:r0=((aT ln 1 11 (l,f,e)).1))(Dd:r1=((aT ln 1 11 (l,f,e)).2.1))(D9:r2=((aT ln 1 11 (l,f,e)).2.2)):FMM Tp 93 [(.p (.sl fs.length ((fs.map stE).flatten))),(pI sm),(.fn 176 [] [(.ptr 0 0),(.ptr 1 0)])] [some (.box 156 [(.ptr 2 0)]),some (.box 3 [(pI ln)]),some (.box 158 [(pI k),(.own 3),(pI l),(pI f),(pI e)]),some (.row 78 R.length ((R.map rwE).flatten))] (.tup []) [some (.box 156 [(.ptr 2 0)]),some (.box 3 [(pI ln)]),some (.box 158 [(pI k),(.own 3),(pI r0),(pI r1),(pI r2)]),some (.row 78 R.length ((R.map rwE).flatten))]:=by
 subst Al Dd D9;have k1:=mq co 4 (cP 1 11 ln k l f e R);exact FMM.fi 4 gE func93 [.x (aD u0),bT,k1.o] (gc k1 (gc (dB (decide_eq_false h1)) (gt (((fs.map stE).flatten)[0]? = some (aD u0)) (aL (E:=stE) (i:=0) (f:=0) (k:=1) (fun _=>rfl) h0 rfl) (gc (bB (E:=stE) (k:=1) (i:=(0:Int)) (fun _=>rfl) (by decide) (by first | decide | simp) h0) gn))))
theorem bUq{fs:List (List UInt8)}{R:List (List Cel)}{u0:List UInt8}(h0:fs[0]? = some (u0))(h1:u0=([115,117,109]:List UInt8))(h2:(fs.length:Int)<2)(Al:r0=((aT ln 2 11 (l,f,e)).1))(Dd:r1=((aT ln 2 11 (l,f,e)).2.1))(D9:r2=((aT ln 2 11 (l,f,e)).2.2)):FMM Tp 93 [(.p (.sl fs.length ((fs.map stE).flatten))),(pI sm),(.fn 176 [] [(.ptr 0 0),(.ptr 1 0)])] [some (.box 156 [(.ptr 2 0)]),some (.box 3 [(pI ln)]),some (.box 158 [(pI k),(.own 3),(pI l),(pI f),(pI e)]),some (.row 78 R.length ((R.map rwE).flatten))] (.tup []) [some (.box 156 [(.ptr 2 0)]),some (.box 3 [(pI ln)]),some (.box 158 [(pI k),(.own 3),(pI r0),(pI r1),(pI r2)]),some (.row 78 R.length ((R.map rwE).flatten))]:=by
 subst Al Dd D9;have k1:=mq co 4 (cP 2 11 ln k l f e R);exact FMM.fi 4 gE func93 [.x (aD u0),bF,bT,k1.o] (gc k1 (gc (cN h2) (gc (aW (decide_eq_true h1)) (gt (((fs.map stE).flatten)[0]? = some (aD u0)) (aL (E:=stE) (i:=0) (f:=0) (k:=1) (fun _=>rfl) h0 rfl) (gc (bB (E:=stE) (k:=1) (i:=(0:Int)) (fun _=>rfl) (by decide) (by first | decide | simp) h0) gn)))))
section
variable{fs:List (List UInt8)}{u0 u1:List UInt8}(h0:fs[0]? = some (u0))(h1:u0=([115,117,109]:List UInt8))(h2:(2:Int)≤(fs.length:Int))(h3:fs[1]? = some (u1))(h4:0≤(65520:Int)∧(65520:Int)≤1000000000)
include h0 h1 h2 h3 h4
theorem bUr{R:List (List Cel)}(h5:((bN u1 65520).2)=3)(h6:((aT ln 2 8 (l,f,e)).2.2)≠0)(Al:r0=((aT ln 2 8 (l,f,e)).1))(Dd:r1=((aT ln 2 8 (l,f,e)).2.1))(D9:r2=((aT ln 2 8 (l,f,e)).2.2)):FMM Tp 93 [(.p (.sl fs.length ((fs.map stE).flatten))),(pI sm),(.fn 176 [] [(.ptr 0 0),(.ptr 1 0)])] [some (.box 156 [(.ptr 2 0)]),some (.box 3 [(pI ln)]),some (.box 158 [(pI k),(.own 3),(pI l),(pI f),(pI e)]),some (.row 78 R.length ((R.map rwE).flatten))] (.tup []) [some (.box 156 [(.ptr 2 0)]),some (.box 3 [(pI ln)]),some (.box 158 [(pI k),(.own 3),(pI r0),(pI r1),(pI r2)]),some (.row 78 R.length ((R.map rwE).flatten))]:=by
 subst Al Dd D9;have k1:=fk 4 (gG u1 65520 h4) rfl;have k2:=mq co 4 (cP 2 8 ln k l f e R);exact FMM.fi 4 gE func93 ([.x (aD u0),bF,bF,.x (aD u1),k1.o]++rT 5++[k2.o,bF,bF,bF,bF]) (Gp (bJ h6) (gc k2 (Cg (dC h5) (gc k1 (gt (((fs.map stE).flatten)[1]? = some (aD u1)) (aL (E:=stE) (i:=1) (f:=0) (k:=1) (fun _=>rfl) h3 rfl) (gc (bB (E:=stE) (k:=1) (i:=(1:Int)) (fun _=>rfl) (by decide) (by first | decide | simp) h3) (gc (bH h2) (gc (aW (decide_eq_true h1)) (gt (((fs.map stE).flatten)[0]? = some (aD u0)) (aL (E:=stE) (i:=0) (f:=0) (k:=1) (fun _=>rfl) h0 rfl) (gc (bB (E:=stE) (k:=1) (i:=(0:Int)) (fun _=>rfl) (by decide) (by first | decide | simp) h0) gn))))))))))
theorem bUs{R:List (List Cel)}(h5:((bN u1 65520).2)≠3)(h6:((bN u1 65520).2)=0)(h7:((bN u1 65520).1)≠sm)(h8:((aT ln 2 8 (l,f,e)).2.2)≠0)(Al:r0=((aT ln 2 8 (l,f,e)).1))(Dd:r1=((aT ln 2 8 (l,f,e)).2.1))(D9:r2=((aT ln 2 8 (l,f,e)).2.2)):FMM Tp 93 [(.p (.sl fs.length ((fs.map stE).flatten))),(pI sm),(.fn 176 [] [(.ptr 0 0),(.ptr 1 0)])] [some (.box 156 [(.ptr 2 0)]),some (.box 3 [(pI ln)]),some (.box 158 [(pI k),(.own 3),(pI l),(pI f),(pI e)]),some (.row 78 R.length ((R.map rwE).flatten))] (.tup []) [some (.box 156 [(.ptr 2 0)]),some (.box 3 [(pI ln)]),some (.box 158 [(pI k),(.own 3),(pI r0),(pI r1),(pI r2)]),some (.row 78 R.length ((R.map rwE).flatten))]:=by
 subst Al Dd D9;have k1:=fk 4 (gG u1 65520 h4) rfl;have k2:=mq co 4 (cP 2 8 ln k l f e R);exact FMM.fi 4 gE func93 [.x (aD u0),bF,bF,.x (aD u1),k1.o,bF,bF,bF,bT,bT,bT,bF,bT,bF,bT,k2.o,bF,bF,bF,bF] (Gp (bJ h8) (gc k2 (gc (eY h7) (gc (bJ h5) (gc (dC h6) (gc (bJ h5) (A2 (dC h6) (A2 (bJ h5) (gc k1 (gt (((fs.map stE).flatten)[1]? = some (aD u1)) (aL (E:=stE) (i:=1) (f:=0) (k:=1) (fun _=>rfl) h3 rfl) (gc (bB (E:=stE) (k:=1) (i:=(1:Int)) (fun _=>rfl) (by decide) (by first | decide | simp) h3) (gc (bH h2) (gc (aW (decide_eq_true h1)) (gt (((fs.map stE).flatten)[0]? = some (aD u0)) (aL (E:=stE) (i:=0) (f:=0) (k:=1) (fun _=>rfl) h0 rfl) (gc (bB (E:=stE) (k:=1) (i:=(0:Int)) (fun _=>rfl) (by decide) (by first | decide | simp) h0) gn)))))))))))))))
theorem bUt{R:List (List Cel)}(h5:((bN u1 65520).2)≠3)(h6:((bN u1 65520).2)=0)(h7:((bN u1 65520).1)=sm)(h8:((aT ln 2 ((bN u1 65520).2) (l,f,e)).2.2)=0)(h9:(2:Int)<(fs.length:Int))(Al:r0=((aT ln 3 11 (((aT ln 2 ((bN u1 65520).2) (l,f,e)).1),((aT ln 2 ((bN u1 65520).2) (l,f,e)).2.1),((aT ln 2 ((bN u1 65520).2) (l,f,e)).2.2))).1))(Dd:r1=((aT ln 3 11 (((aT ln 2 ((bN u1 65520).2) (l,f,e)).1),((aT ln 2 ((bN u1 65520).2) (l,f,e)).2.1),((aT ln 2 ((bN u1 65520).2) (l,f,e)).2.2))).2.1))(D9:r2=((aT ln 3 11 (((aT ln 2 ((bN u1 65520).2) (l,f,e)).1),((aT ln 2 ((bN u1 65520).2) (l,f,e)).2.1),((aT ln 2 ((bN u1 65520).2) (l,f,e)).2.2))).2.2)):FMM Tp 93 [(.p (.sl fs.length ((fs.map stE).flatten))),(pI sm),(.fn 176 [] [(.ptr 0 0),(.ptr 1 0)])] [some (.box 156 [(.ptr 2 0)]),some (.box 3 [(pI ln)]),some (.box 158 [(pI k),(.own 3),(pI l),(pI f),(pI e)]),some (.row 78 R.length ((R.map rwE).flatten))] (.tup []) [some (.box 156 [(.ptr 2 0)]),some (.box 3 [(pI ln)]),some (.box 158 [(pI k),(.own 3),(pI r0),(pI r1),(pI r2)]),some (.row 78 R.length ((R.map rwE).flatten))]:=by
 subst Al Dd D9;have k1:=fk 4 (gG u1 65520 h4) rfl;have k2:=mq co 4 (cP 2 ((bN u1 65520).2) ln k l f e R);have k3:=mq co 4 (cP 3 11 ln k ((aT ln 2 ((bN u1 65520).2) (l,f,e)).1) ((aT ln 2 ((bN u1 65520).2) (l,f,e)).2.1) ((aT ln 2 ((bN u1 65520).2) (l,f,e)).2.2) R);exact FMM.fi 4 gE func93 ([.x (aD u0),bF,bF,.x (aD u1),k1.o,bF,bF,bF,bT,bT,bT,bF,bT,bF,bF,k2.o]++rT 5++[k3.o]) (gc k3 (gc (cN h9) (Gp (dC h8) (gc k2 (gc (bL h7) (gc (bJ h5) (gc (dC h6) (gc (bJ h5) (A2 (dC h6) (A2 (bJ h5) (gc k1 (gt (((fs.map stE).flatten)[1]? = some (aD u1)) (aL (E:=stE) (i:=1) (f:=0) (k:=1) (fun _=>rfl) h3 rfl) (gc (bB (E:=stE) (k:=1) (i:=(1:Int)) (fun _=>rfl) (by decide) (by first | decide | simp) h3) (gc (bH h2) (gc (aW (decide_eq_true h1)) (gt (((fs.map stE).flatten)[0]? = some (aD u0)) (aL (E:=stE) (i:=0) (f:=0) (k:=1) (fun _=>rfl) h0 rfl) (gc (bB (E:=stE) (k:=1) (i:=(0:Int)) (fun _=>rfl) (by decide) (by first | decide | simp) h0) gn)))))))))))))))))
theorem bUu{R:List (List Cel)}(h5:((bN u1 65520).2)≠3)(h6:((bN u1 65520).2)=0)(h7:((bN u1 65520).1)=sm)(h8:((aT ln 2 ((bN u1 65520).2) (l,f,e)).2.2)=0)(h9:(fs.length:Int)≤2)(Al:r0=((aT ln 2 ((bN u1 65520).2) (l,f,e)).1))(Dd:r1=((aT ln 2 ((bN u1 65520).2) (l,f,e)).2.1))(D9:r2=((aT ln 2 ((bN u1 65520).2) (l,f,e)).2.2)):FMM Tp 93 [(.p (.sl fs.length ((fs.map stE).flatten))),(pI sm),(.fn 176 [] [(.ptr 0 0),(.ptr 1 0)])] [some (.box 156 [(.ptr 2 0)]),some (.box 3 [(pI ln)]),some (.box 158 [(pI k),(.own 3),(pI l),(pI f),(pI e)]),some (.row 78 R.length ((R.map rwE).flatten))] (.tup []) [some (.box 156 [(.ptr 2 0)]),some (.box 3 [(pI ln)]),some (.box 158 [(pI k),(.own 3),(pI r0),(pI r1),(pI r2)]),some (.row 78 R.length ((R.map rwE).flatten))]:=by
 subst Al Dd D9;have k1:=fk 4 (gG u1 65520 h4) rfl;have k2:=mq co 4 (cP 2 ((bN u1 65520).2) ln k l f e R);exact FMM.fi 4 gE func93 [.x (aD u0),bF,bF,.x (aD u1),k1.o,bF,bF,bF,bT,bT,bT,bF,bT,bF,bF,k2.o,bT,bT,bT,bT,bF] (gc (bH h9) (Gp (dC h8) (gc k2 (gc (bL h7) (gc (bJ h5) (gc (dC h6) (gc (bJ h5) (A2 (dC h6) (A2 (bJ h5) (gc k1 (gt (((fs.map stE).flatten)[1]? = some (aD u1)) (aL (E:=stE) (i:=1) (f:=0) (k:=1) (fun _=>rfl) h3 rfl) (gc (bB (E:=stE) (k:=1) (i:=(1:Int)) (fun _=>rfl) (by decide) (by first | decide | simp) h3) (gc (bH h2) (gc (aW (decide_eq_true h1)) (gt (((fs.map stE).flatten)[0]? = some (aD u0)) (aL (E:=stE) (i:=0) (f:=0) (k:=1) (fun _=>rfl) h0 rfl) (gc (bB (E:=stE) (k:=1) (i:=(0:Int)) (fun _=>rfl) (by decide) (by first | decide | simp) h0) gn))))))))))))))))
theorem bMr{R:List (List Cel)}(h5:((bN u1 65520).2)≠3)(h6:((bN u1 65520).2)≠0)(h7:((aT ln 2 ((bN u1 65520).2) (l,f,e)).2.2)≠0)(Al:r0=((aT ln 2 ((bN u1 65520).2) (l,f,e)).1))(Dd:r1=((aT ln 2 ((bN u1 65520).2) (l,f,e)).2.1))(D9:r2=((aT ln 2 ((bN u1 65520).2) (l,f,e)).2.2)):FMM Tp 93 [(.p (.sl fs.length ((fs.map stE).flatten))),(pI sm),(.fn 176 [] [(.ptr 0 0),(.ptr 1 0)])] [some (.box 156 [(.ptr 2 0)]),some (.box 3 [(pI ln)]),some (.box 158 [(pI k),(.own 3),(pI l),(pI f),(pI e)]),some (.row 78 R.length ((R.map rwE).flatten))] (.tup []) [some (.box 156 [(.ptr 2 0)]),some (.box 3 [(pI ln)]),some (.box 158 [(pI k),(.own 3),(pI r0),(pI r1),(pI r2)]),some (.row 78 R.length ((R.map rwE).flatten))]:=by
 subst Al Dd D9;have k1:=fk 4 (gG u1 65520 h4) rfl;have k2:=mq co 4 (cP 2 ((bN u1 65520).2) ln k l f e R);exact FMM.fi 4 gE func93 ([.x (aD u0),bF,bF,.x (aD u1),k1.o]++rF 9++[k2.o,bF,bF,bF,bF]) (Gp (bJ h7) (gc k2 (gc (bJ h5) (gc (bJ h6) (gc (bJ h5) (A2 (bJ h6) (A2 (bJ h5) (gc k1 (gt (((fs.map stE).flatten)[1]? = some (aD u1)) (aL (E:=stE) (i:=1) (f:=0) (k:=1) (fun _=>rfl) h3 rfl) (gc (bB (E:=stE) (k:=1) (i:=(1:Int)) (fun _=>rfl) (by decide) (by first | decide | simp) h3) (gc (bH h2) (gc (aW (decide_eq_true h1)) (gt (((fs.map stE).flatten)[0]? = some (aD u0)) (aL (E:=stE) (i:=0) (f:=0) (k:=1) (fun _=>rfl) h0 rfl) (gc (bB (E:=stE) (k:=1) (i:=(0:Int)) (fun _=>rfl) (by decide) (by first | decide | simp) h0) gn))))))))))))))
end
def rdL:List Int→List (List UInt8)→Nat→List Cel ⊕ (Int × Int)
 | [],_,_ => .inl []
 | _::_,[],i => .inr (((i+1:Nat):Int),11)
 | t::ts,u::us,i=>if (rdM t u).2≠0 then .inr (((i+1:Nat):Int),(rdM t u).2) else match rdL ts us (i+1) with
  | .inl cs => .inl ((rdM t u).1::cs)
  | .inr p => .inr p
theorem uS{k:Int}{fs:List (List UInt8)}(ln:Int)(R:List (List Cel))(l f:Int)(hf:∀ u∈fs,u.length≤90000):∀ (ts:List Int) (us:List (List UInt8)) (i:Nat) (o:List Cel),(aJ k).drop i=ts→fs.drop i=us→i≤(aJ k).length→i≤fs.length→o.length=i →
  (∃ cs,rdL ts us i = .inl cs∧aF Tp 4 jW (cX fs ln k R i o.length ((o.map cE).flatten) l f 0) (.exit 0) (cX fs ln k R (aJ k).length (o++cs).length (((o++cs).map cE).flatten) l f 0)) ∨
  (∃ fd er j o',rdL ts us i = .inr (fd,er)∧er≠0∧aF Tp 4 jW (cX fs ln k R i o.length ((o.map cE).flatten) l f 0) .ret (cJ (cX fs ln k R j o'.length ((List.map cE o').flatten) ln fd er) [(6,(.p bK)),(7,(pB false))]))
 | [],us,i,o,ht,hu,hi,hj,ho=>by
  have hl:(aJ k).length≤i:=List.drop_eq_nil_iff.1 ht;have:i=(aJ k).length:=by omega
  subst this;exact .inl ⟨[],rfl,by rw [List.append_nil];exact .exit (aXv (by omega)) (by simp)⟩
 | t::ts,[],i,o,ht,hu,hi,hj,ho=>by
  have hc:=kA k;have hl:=congrArg List.length ht;rw [xY,Cb] at hl
  have Bl:fs.length≤i:=List.drop_eq_nil_iff.1 hu;have e:=Eu (er:=11) ln (((i+1:Nat)):Int) l f (by decide)
  have:=aXm (fs:=fs) (ln:=ln) (k:=k) (R:=R) (i:=i) (o:=o) (l1:=l) (f1:=f) (e1:=0) (by omega) (by omega) (aR (by omega)) rfl rfl rfl
  rw [e] at this
  exact .inr ⟨_,11,i,o,rfl,by decide,.exit this (by simp)⟩
 | t::ts,u::us,i,o,ht,hu,hi,hj,ho=>by
  have hc:=kA k;have hl:=congrArg List.length ht;rw [xY,Cb] at hl
  have Bl:=congrArg List.length hu;rw [xY,Cb] at Bl
  have h1:(aJ k)[i]? = some t:=by
   have:=congrArg (fun l:List Int=>l[0]?) ht
   simpa using this
  have h2:fs[i]? = some u:=by
   have:=congrArg (fun l:List (List UInt8)=>l[0]?) hu
   simpa using this
  have Oy:=hf u (B0 h2);have I9:(aJ k).drop (i+1)=ts:=by
   have:=congrArg List.tail ht;rw [List.tail_drop] at this;exact this
  have Q4:fs.drop (i+1)=us:=by
   have:=congrArg List.tail hu;rw [List.tail_drop] at this;exact this
  unfold rdL
  by_cases hz:(rdM t u).2=0
  ·rw [if_neg (by simp [hz])]
   have hs:aA Tp 4 jW (cX fs ln k R i o.length ((o.map cE).flatten) l f 0) .normal (cX fs ln k R (i+1) (o++[(rdM t u).1]).length (((o++[(rdM t u).1]).map cE).flatten) l f 0):=by
    rcases iT h1 with rfl | rfl | rfl | rfl
    ·exact aXo (by omega) (by omega) h1 h2 (aR (by omega)) (by rw [hz];rfl) ⟨rfl,by omega⟩ rfl (by simp) (by simp [cE]) (by rw [hz];rfl) (by rw [hz];rfl) (by rw [hz];rfl)
    ·exact aXq (by omega) (by omega) h1 h2 Oy (aR (by omega)) (by rw [hz];rfl) ⟨rfl,by omega⟩ rfl (by simp) (by simp [cE]) (by rw [hz];rfl) (by rw [hz];rfl) (by rw [hz];rfl)
    ·exact aXs (by omega) (by omega) h1 h2 (aR (by omega)) (by rw [hz];rfl) ⟨rfl,by omega⟩ rfl (by simp) (by simp [cE]) (by rw [hz];rfl) (by rw [hz];rfl) (by rw [hz];rfl)
    ·exact aXu (by omega) (by omega) h1 h2 (aR (by omega)) (by rw [hz];rfl) ⟨rfl,by omega⟩ rfl (by simp) (by simp [cE]) (by rw [hz];rfl) (by rw [hz];rfl) (by rw [hz];rfl)
   rcases uS ln R l f hf ts us (i+1) (o++[(rdM t u).1]) I9 Q4 (by omega) (by omega) (by simp;omega) with ⟨cs,q1,q2⟩ | ⟨fd,er,j,o',q1,q2,q3⟩
   ·rw [q1]
    refine .inl ⟨_,rfl,?_⟩;rw [List.append_cons];exact .step hs q2
   ·rw [q1]
    exact .inr ⟨fd,er,j,o',rfl,q2,.step hs q3⟩
  ·rw [if_pos hz]
   have e:=Eu ln (((i+1:Nat)):Int) l f hz;refine .inr ⟨_,_,i,o,rfl,hz,?_⟩;have hx:∀ (P:Int × Int × Int→Prop),P (aT ln (((i+1:Nat)):Int) (rdM t u).2 (l,f,0))→P (ln,(((i+1:Nat)):Int),(rdM t u).2):=fun P h=>by rw [e] at h;exact h
   refine hx (fun q=>aF Tp 4 jW (cX fs ln k R i o.length ((o.map cE).flatten) l f 0) .ret (cJ (cX fs ln k R i o.length ((List.map cE o).flatten) q.1 q.2.1 q.2.2) [(6,(.p bK)),(7,(pB false))])) ?_
   rcases iT h1 with rfl | rfl | rfl | rfl
   ·exact .exit (aXn (by omega) (by omega) h1 h2 (aR (by omega)) (by rw [e];exact hz) rfl rfl rfl) (by simp)
   ·exact .exit (aXp (by omega) (by omega) h1 h2 Oy (aR (by omega)) (by rw [e];exact hz) rfl rfl rfl) (by simp)
   ·exact .exit (aXr (by omega) (by omega) h1 h2 (aR (by omega)) (by rw [e];exact hz) rfl rfl rfl) (by simp)
   ·exact .exit (aXt (by omega) (by omega) h1 h2 (aR (by omega)) (by rw [e];exact hz) rfl rfl rfl) (by simp)
theorem lH{k:Int}{fs:List (List UInt8)}{cs:List Cel}(ln:Int)(R:List (List Cel))(l f:Int)(hf:∀ u∈fs,u.length≤90000)(h:rdL (aJ k) fs 0 = .inl cs)(hl:fs.length=(aJ k).length):FMM Tp 91 [.ptr 0 0,.p (.sl fs.length ((fs.map stE).flatten)),.fn 176 [] [.ptr 2 0,.ptr 3 0]] [some (.box 158 [(pI k),(.own 1),(pI l),(pI f),(pI 0)]),some (.row 78 R.length ((R.map rwE).flatten)),some (.box 156 [(.ptr 0 0)]),some (.box 3 [(pI ln)])] (.tup [.own 4,.p (blP true)]) [some (.box 158 [(pI k),(.own 1),(pI l),(pI f),(pI 0)]),some (.row 78 R.length ((R.map rwE).flatten)),some (.box 156 [(.ptr 0 0)]),some (.box 3 [(pI ln)]),some (.row 80 cs.length ((cs.map cE).flatten))]:=by
 rcases uS ln R l f hf (aJ k) fs 0 [] rfl rfl (by omega) (by omega) rfl with ⟨Bg,q1,q2⟩ | ⟨fd,er,j,o',q1,_,_⟩
 ·rw [q1] at h;cases h
  exact bUm q2 (by omega)
 ·rw [q1] at h;cases h
theorem aKe{k:Int}{fs:List (List UInt8)}{cs:List Cel}(ln:Int)(R:List (List Cel))(l f:Int)(hf:∀ u∈fs,u.length≤90000)(h:rdL (aJ k) fs 0 = .inl cs)(hl:fs.length≠(aJ k).length):FMM Tp 91 [.ptr 0 0,.p (.sl fs.length ((fs.map stE).flatten)),.fn 176 [] [.ptr 2 0,.ptr 3 0]] [some (.box 158 [(pI k),(.own 1),(pI l),(pI f),(pI 0)]),some (.row 78 R.length ((R.map rwE).flatten)),some (.box 156 [(.ptr 0 0)]),some (.box 3 [(pI ln)])] (.tup [.own 4,.p (blP false)]) [some (.box 158 [(pI k),(.own 1),(pI ln),(pI (((aJ k).length+1:Nat):Int)),(pI 11)]),some (.row 78 R.length ((R.map rwE).flatten)),some (.box 156 [(.ptr 0 0)]),some (.box 3 [(pI ln)]),some (.row 80 cs.length ((cs.map cE).flatten))]:=by
 have hc:=kA k
 rcases uS ln R l f hf (aJ k) fs 0 [] rfl rfl (by omega) (by omega) rfl with ⟨Bg,q1,q2⟩ | ⟨fd,er,j,o',q1,_,_⟩
 ·rw [q1] at h;cases h
  exact bUn q2 (by omega) (aR (by omega)) rfl rfl rfl rfl
 ·rw [q1] at h;cases h
theorem aRs{k:Int}{fs:List (List UInt8)}{fd er:Int}(ln:Int)(R:List (List Cel))(l f:Int)(hf:∀ u∈fs,u.length≤90000)(h:rdL (aJ k) fs 0 = .inr (fd,er)):er≠0∧FMM Tp 91 [.ptr 0 0,.p (.sl fs.length ((fs.map stE).flatten)),.fn 176 [] [.ptr 2 0,.ptr 3 0]] [some (.box 158 [(pI k),(.own 1),(pI l),(pI f),(pI 0)]),some (.row 78 R.length ((R.map rwE).flatten)),some (.box 156 [(.ptr 0 0)]),some (.box 3 [(pI ln)])] (.tup [.p bK,.p (blP false)]) [some (.box 158 [(pI k),(.own 1),(pI ln),(pI fd),(pI er)]),some (.row 78 R.length ((R.map rwE).flatten)),some (.box 156 [(.ptr 0 0)]),some (.box 3 [(pI ln)])]:=by
 rcases uS ln R l f hf (aJ k) fs 0 [] rfl rfl (by omega) (by omega) rfl with ⟨Bg,q1,q2⟩ | ⟨fd',er',j,o',q1,hz,q2⟩
 ·rw [q1] at h;cases h
 ·rw [q1] at h;cases h
  have hb:(er == 0)=false:=by simpa using hz
  refine ⟨hz,?_⟩;have:=bUo (k:=k) (l:=l) (f:=f) (e:=0) (r0:=(er == 0)) (by rw [hb];exact q2) rfl
  rw [hb] at this
  exact this
def lsC(fs:List (List UInt8))(sm:Int):Int:=if (bN (fld fs 1) 65520).2=3∨((bN (fld fs 1) 65520).2=0∧(bN (fld fs 1) 65520).1≠sm) then 8 else (bN (fld fs 1) 65520).2
def lsM(fs:List (List UInt8))(sm:Int):Int × Int:=if fld fs 0≠[115,117,109] then (1,11) else if fs.length<2 then (2,11) else if lsC fs sm≠0 then (2,lsC fs sm) else if 2<fs.length then (3,11) else (0,0)
theorem bGn(fs:List (List UInt8))(sm ln k l f:Int)(R:List (List Cel))(h0:0<fs.length):FMM Tp 93 [.p (.sl fs.length ((fs.map stE).flatten)),.p (aB sm),.fn 176 [] [.ptr 0 0,.ptr 1 0]] [some (.box 156 [(.ptr 2 0)]),some (.box 3 [(pI ln)]),some (.box 158 [(pI k),(.own 3),(pI l),(pI f),(pI 0)]),some (.row 78 R.length ((R.map rwE).flatten))] (.tup []) [some (.box 156 [(.ptr 2 0)]),some (.box 3 [(pI ln)]),some (.box 158 [(pI k),(.own 3),(pI ((aT ln (lsM fs sm).1 (lsM fs sm).2 (l,f,0)).1)),(pI ((aT ln (lsM fs sm).1 (lsM fs sm).2 (l,f,0)).2.1)),(pI ((aT ln (lsM fs sm).1 (lsM fs sm).2 (l,f,0)).2.2))]),some (.row 78 R.length ((R.map rwE).flatten))]:=by
 have f0:=aAq (fs:=fs) (j:=0) h0;unfold lsM
 by_cases h1:fld fs 0=[115,117,109]
 ·rw [if_neg (by simp [h1])]
  by_cases h2:fs.length<2
  ·rw [if_pos h2]
   exact bUq f0 h1 (by omega) rfl rfl rfl
  ·rw [if_neg h2]
   have f1:=aAq (fs:=fs) (j:=1) (by omega)
   have t1:∀ fd er,er≠0→aT ln fd er (l,f,0)=(ln,fd,er):=fun fd er h=>Eu ln fd l f h
   by_cases h3:(bN (fld fs 1) 65520).2=3
   ·have ec:lsC fs sm=8:=if_pos (.inl h3)
    rw [if_pos (by rw [ec];decide),ec]
    exact bUr f0 h1 (by omega) f1 (by omega) h3 (by rw [t1 _ _ (by decide)];simp) rfl rfl rfl
   ·by_cases h4:(bN (fld fs 1) 65520).2=0
    ·by_cases h5:(bN (fld fs 1) 65520).1=sm
     ·have ec:lsC fs sm=0:=by unfold lsC;rw [if_neg (by simp [h4,h5])];exact h4
      rw [if_neg (by rw [ec];simp)]
      by_cases h6:2<fs.length
      ·rw [if_pos h6]
       have:=bUt (k:=k) (l:=l) (f:=f) (e:=0) (ln:=ln) (R:=R) f0 h1 (by omega) f1 (by omega) h3 h4 h5 (by rw [h4];rfl) (by omega) rfl rfl rfl
       rw [h4] at this
       exact this
      ·rw [if_neg h6]
       have:=bUu (k:=k) (l:=l) (f:=f) (e:=0) (ln:=ln) (R:=R) f0 h1 (by omega) f1 (by omega) h3 h4 h5 (by rw [h4];rfl) (by omega) rfl rfl rfl
       rw [h4] at this
       exact this
     ·have ec:lsC fs sm=8:=if_pos (.inr ⟨h4,h5⟩)
      rw [if_pos (by rw [ec];decide),ec]
      exact bUs f0 h1 (by omega) f1 (by omega) h3 h4 h5 (by rw [t1 _ _ (by decide)];simp) rfl rfl rfl
    ·have ec:lsC fs sm=(bN (fld fs 1) 65520).2:=if_neg (by simp [h3,h4])
     rw [if_pos (by rw [ec];exact h4),ec]
     exact bMr f0 h1 (by omega) f1 (by omega) h3 h4 (by rw [t1 _ _ h4];exact h4) rfl rfl rfl
 ·rw [if_pos h1]
  exact bUp f0 h1 rfl rfl rfl
end
end KV
end Go.Proofs
section
namespace Go.Proofs
open Go.RowKit
namespace KV
open Tryz
def aO(s sep:List UInt8):List (List UInt8):=Lib.splitK sep 0 (Lib.countB ⟨s.toArray⟩ ⟨sep.toArray⟩) s
theorem cCz(s sep:List UInt8):(Lib.splitB ⟨sep.toArray⟩ 0 (Lib.countB ⟨s.toArray⟩ ⟨sep.toArray⟩) ⟨s.toArray⟩).map (·.data.toList)=aO s sep:=by
 rw [Lib.splitB_data];rfl
theorem bIb(w:World)(arr:Array Value)(ty:TypeId)(i:Nat):(w.alloc (.cells arr ty)).cell? ⟨w.heap.size,i,none⟩=arr[i]? := by
 unfold World.cell?;simp [World.alloc,-World.alloc_eq]
theorem aKq{w:World}{o:Obj}:Below w.heap.size w (w.alloc o):=⟨rfl,rfl,rfl,by simp [World.alloc,-World.alloc_eq],fun b hb=>by simp [World.alloc,-World.alloc_eq,Array.getElem?_push];omega⟩
theorem eA(s sep:List UInt8)(h:s.length<4294967281)(h1:1≤sep.length){base:Nat}:FV Tp 29 [.p (aD s),.p (aD sep)] base (.p (.sl (aO s sep).length (((aO s sep).map stE).flatten))) []:=FV.ofc rfl fun C w us hus hM=>by
 obtain rfl:=Gm rfl rfl hus;obtain ⟨m,hm⟩:=(yL hM.lib).1;refine (Tryz.strings_Split ⟨s.toArray⟩ ⟨sep.toArray⟩ m w (by rw [Lib.size_eq];exact h) hm (by rw [Lib.size_eq];exact h1)).mono ?_
 rintro e w' ⟨rfl,rfl⟩;have hl:=Lib.splitB_all ⟨sep.toArray⟩ (by rw [Lib.size_eq];exact h1) 0 _ ⟨s.toArray⟩ rfl
 have hs:=cCz s sep;have hc:Lib.countB ⟨s.toArray⟩ ⟨sep.toArray⟩≤s.length:=by
  have:=Lib.countB_le ⟨sep.toArray⟩ (by rw [Lib.size_eq];exact h1) _ ⟨s.toArray⟩ (dD _)
  rw [Lib.size_eq] at this;exact this
 generalize Lib.splitB ⟨sep.toArray⟩ 0 (Lib.countB ⟨s.toArray⟩ ⟨sep.toArray⟩) ⟨s.toArray⟩=L at hl hs ⊢
 rw [← hs,kI,hl,dY];generalize Lib.countB ⟨s.toArray⟩ ⟨sep.toArray⟩=n at hl hc
 refine ⟨_,rfl,aKq,.p _ _ (.sl _ _ _ _ (fun i=>((L.map Value.string).toArray)[i]?.getD undef) (dD _) ?_ (fun i hi => ?_) (fun i hi => ?_) (fun i hi => ?_))⟩
 ·simp only [maxLen];omega
 ·refine ⟨_,_,rfl,.inr ⟨dD _,by simp [World.alloc,-World.alloc_eq],by simp⟩,?_⟩
  rw [bIb];have:i<((L.map Value.string).toArray).size:=by simpa using hi
  simp [iP,rU this]
 ·have Dy:i<L.length:=by simpa using hi
  rw [gL,gL];simp only [List.getElem?_toArray,rV,Bw Dy,Option.map_some,Option.getD_some];exact .v _
 ·have Dy:i<L.length:=by simpa using hi
  simp only [List.getElem?_toArray,rV,Bw Dy,Option.map_some,Option.getD_some];rfl
end KV
end Go.Proofs
end
namespace Go.Proofs
namespace KV
open Tryz
section
variable {j k Bf Cj:Int}{i i' Ap base:Nat}

noncomputable abbrev aDw:Code:=sub (cd Tryz.f107) [1,1,0,1,0,0]
noncomputable abbrev aDx:Code:=sub (cd Tryz.f167) [1,1,0,1,0,0]
noncomputable abbrev aDy:Code:=sub (cd Tryz.f46) [1,1,0,1,0,0]
noncomputable abbrev aDz:Code:=sub (cd Tryz.f117) [1,1,0,1,0,0]
theorem bMq{b t g:Int}:FV Tp 87 [(pI b),(pI t),(pI g)] base (.p (.sl 3 [(aB b),(aD ([]:List UInt8)),(aB t),(aD ([]:List UInt8)),(aB g),(aD ([]:List UInt8))])) []:=FV.frz (FMM.fi 0 ⟨[],[],[0],[]⟩ func87 [] gn) (by kernel_rfl)
theorem rK(b t g:Int){base:Nat}:FV Tp 87 [.p (aB b),.p (aB t),.p (aB g)] base (.p (.sl ([(b,[]),(t,[]),(g,[])]:List Cel).length ((([(b,[]),(t,[]),(g,[])]:List Cel).map cE).flatten))) []:=bMq
theorem dQ{α β:Type}{l:List α}{x:List β}{j:Nat}{p:α × β}(h:(l.zip x)[j]? = some p):l[j]? = some p.1∧x[j]? = some p.2:=by
 rw [List.zip,List.getElem?_zipWith] at h
 cases h1:l[j]? with
 | none=>rw [h1] at h;simp at h
 | some t =>
  cases h2:x[j]? with
  | none=>rw [h1,h2] at h;simp at h
  | some c=>rw [h1,h2] at h;simp at h;subst h;exact ⟨rfl,rfl⟩
theorem hZ{α:Type}[DecidableEq α]:∀ (r t:List α),r.length=t.length→(r.zip t).any (fun q => !(decide (q.1=q.2)))=false→r=t
 | [],[],_,_=>rfl
 | a::r,b::t,hl,h=>by
  simp only [List.zip_cons_cons,List.any_cons,Bool.or_eq_false_iff,Bool.not_eq_false',decide_eq_true_eq] at h
  rw [h.1,hZ r t (by simpa using hl) h.2]
 | [],_::_,hl,_=>by simp at hl
 | _::_,[],hl,_=>by simp at hl
theorem vY{a b:Int}{z y:List UInt8}:(decide (a=b) && (decide (z=y) && true))=decide (((a,z):Cel)=(b,y)):=by
 by_cases h:a=b <;> by_cases h2:z=y <;> simp [h,h2]
def jI(r t:List Cel)(i:Nat):St:=⟨fr 26 [(0,(.p (.sl r.length ((r.map cE).flatten)))),(1,(.p (.sl t.length ((t.map cE).flatten)))),(12,(pI (r.length:Int))),(13,(pI (i:Int)))],[]⟩
theorem bTu{r t:List Cel}(h0:(r.length:Int)≠(t.length:Int)):FV Tp 107 [(.p (.sl r.length ((r.map cE).flatten))),(.p (.sl t.length ((t.map cE).flatten)))] base (pB false) []:=FV.fi func107 [bT] (gc (eY h0) gn)
theorem bTv{r t:List Cel}(h0:(r.length:Int)=(t.length:Int))(An:aF Tp 0 aDw (jI r t 0) (.exit 0) (jI r t Ap)):FV Tp 107 [(.p (.sl r.length ((r.map cE).flatten))),(.p (.sl t.length ((t.map cE).flatten)))] base (pB true) []:=FV.fi func107 [bF,An.k 4 (gZ bz)] (gc An.code (gc (bL h0) gn))
theorem bTw{r t:List Cel}(h0:(r.length:Int)=(t.length:Int))(An:aF Tp 0 aDw (jI r t 0) .ret (cJ (jI r t Ap) [(4,(pB false))])):FV Tp 107 [(.p (.sl r.length ((r.map cE).flatten))),(.p (.sl t.length ((t.map cE).flatten)))] base (pB false) []:=FV.fi func107 [bF,An.k 4 (gZ bz)] (gc An.code (gc (bL h0) gn))
section
variable{r t:List Cel}{Bh B1:List UInt8}(h0:(i:Int)<(r.length:Int))(h1:r[i]? = some (Bf,Bh))(h2:t[i]? = some (Cj,B1))
include h0 h1 h2
theorem aXa(h3:(decide (Bf=Cj) && (decide (Bh=B1) && true))=false):aA Tp 0 aDw (jI r t i) .ret (cJ (jI r t i) [(4,(pB false))]):=aA.fi (gN br [] [(4,0)]) [bT,.x (.agg [(aB Bf),(aD Bh)]),.x (.agg [(aB Cj),(aD B1)]),bT] (gc (dB h3) (gc (bG (E:=cE) (i:=i) (k:=2) (fun _=>rfl) h2 rfl) (gc (cC (E:=cE) (i:=i) (k:=2) (fun _=>rfl) h2) (gc (bB (E:=cE) (k:=2) (i:=(i:Int)) (fun _=>rfl) (by decide) (Bt _) h2) (gc (bG (E:=cE) (i:=i) (k:=2) (fun _=>rfl) h1 rfl) (gc (cC (E:=cE) (i:=i) (k:=2) (fun _=>rfl) h1) (gc (bB (E:=cE) (k:=2) (i:=(i:Int)) (fun _=>rfl) (by decide) (Bt _) h1) (g0 h0))))))))
theorem aXb(h3:(decide (Bf=Cj) && (decide (Bh=B1) && true))=true)(h4:cp i)(Ai:i'=(i+1)):aA Tp 0 aDw (jI r t i) .normal (jI r t i'):=by
 subst Ai;exact aA.fi (gZ bz) [bT,.x (.agg [(aB Bf),(aD Bh)]),.x (.agg [(aB Cj),(aD B1)]),bF] (gc h4 (gc (aW h3) (gc (bG (E:=cE) (i:=i) (k:=2) (fun _=>rfl) h2 rfl) (gc (cC (E:=cE) (i:=i) (k:=2) (fun _=>rfl) h2) (gc (bB (E:=cE) (k:=2) (i:=(i:Int)) (fun _=>rfl) (by decide) (Bt _) h2) (gc (bG (E:=cE) (i:=i) (k:=2) (fun _=>rfl) h1 rfl) (gc (cC (E:=cE) (i:=i) (k:=2) (fun _=>rfl) h1) (gc (bB (E:=cE) (k:=2) (i:=(i:Int)) (fun _=>rfl) (by decide) (Bt _) h1) (g0 h0)))))))))
end
theorem aXc{r t:List Cel}(h0:(r.length:Int)≤(i:Int)):aA Tp 0 aDw (jI r t i) (.exit 0) (jI r t i):=aA.fi (gZ bz) [bF] (gc (bH h0) gn)
theorem qC(r t:List Cel)(h:r.length≤100000){base:Nat}:FV Tp 107 [.p (.sl r.length ((r.map cE).flatten)),.p (.sl t.length ((t.map cE).flatten))] base (pB (decide (r=t))) []:=by
 by_cases hl:r.length=t.length
 ·have hz:(r.zip t).length=r.length:=by rw [List.length_zip,hl,Nat.min_self]
  rcases aF.find (P:=Tp) (k:=0) (b:=aDw) (fun i=>jI r t i) (fun i _=>cJ (jI r t i) [(4,.p (blP false))]) (jI r t r.length) .ret (.exit 0) (by simp) (by simp) (fun q:Cel × Cel => !(decide (q.1=q.2))) (r.zip t)
   (fun i q hx hp=>by
    obtain ⟨h1,h2⟩:=dQ hx;have hi:=bC h1;obtain ⟨⟨a,z⟩,b,y⟩:=q;exact aXb (by omega) h1 h2 (by rw [vY];exact (Bool.not_eq_false' _).mp hp) (aR (by omega)) rfl)
   (fun i q hx hp=>by
    obtain ⟨h1,h2⟩:=dQ hx;have hi:=bC h1;obtain ⟨⟨a,z⟩,b,y⟩:=q;exact aXa (by omega) h1 h2 (by rw [vY];exact (Bool.not_eq_true' _).mp hp))
   (by rw [hz];exact aXc (by omega)) with ⟨i,q,h1,h2,h3,h4⟩ | ⟨h1,h2,h3⟩
  ·have hne:decide (r=t)=false:=by
    apply decide_eq_false;intro e;subst e;obtain ⟨q1,q2⟩:=dQ h1;rw [q1] at q2
    have:q.1=q.2:=by simpa using q2
    simp [this] at h3
   rw [hne];exact bTw (by omega) h4
  ·rw [decide_eq_true (hZ r t hl h2)];exact bTv (by omega) h3
 ·have hne:decide (r=t)=false:=decide_eq_false (fun e=>hl (by rw [e]))
  rw [hne];exact bTu (by omega)
def jJ(r t:List Cel)(i:Nat):St:=⟨fr 26 [(0,(.p (.sl r.length ((r.map cE).flatten)))),(1,(.p (.sl t.length ((t.map cE).flatten)))),(12,(pI (r.length:Int))),(13,(pI (i:Int)))],[]⟩
theorem bTx{r t:List Cel}(h0:(r.length:Int)≠(t.length:Int)):FV Tp 167 [(.p (.sl r.length ((r.map cE).flatten))),(.p (.sl t.length ((t.map cE).flatten)))] base (pB false) []:=FV.fi func167 [bT] (gc (eY h0) gn)
theorem bTy{r t:List Cel}(h0:(r.length:Int)=(t.length:Int))(An:aF Tp 0 aDx (jJ r t 0) (.exit 0) (jJ r t Ap)):FV Tp 167 [(.p (.sl r.length ((r.map cE).flatten))),(.p (.sl t.length ((t.map cE).flatten)))] base (pB true) []:=FV.fi func167 [bF,An.k 4 (gZ bz)] (gc An.code (gc (bL h0) gn))
theorem bTz{r t:List Cel}(h0:(r.length:Int)=(t.length:Int))(An:aF Tp 0 aDx (jJ r t 0) .ret (cJ (jJ r t Ap) [(4,(pB false))])):FV Tp 167 [(.p (.sl r.length ((r.map cE).flatten))),(.p (.sl t.length ((t.map cE).flatten)))] base (pB false) []:=FV.fi func167 [bF,An.k 4 (gZ bz)] (gc An.code (gc (bL h0) gn))
section
variable{r t:List Cel}{Bh B1:List UInt8}(h0:(i:Int)<(r.length:Int))(h1:r[i]? = some (Bf,Bh))(h2:t[i]? = some (Cj,B1))
include h0 h1 h2
theorem aXd(h3:(decide (Bf=Cj) && (decide (Bh=B1) && true))=false):aA Tp 0 aDx (jJ r t i) .ret (cJ (jJ r t i) [(4,(pB false))]):=aA.fi (gN br [] [(4,0)]) [bT,.x (.agg [(aB Bf),(aD Bh)]),.x (.agg [(aB Cj),(aD B1)]),bT] (gc (dB h3) (gc (bG (E:=cE) (i:=i) (k:=2) (fun _=>rfl) h2 rfl) (gc (cC (E:=cE) (i:=i) (k:=2) (fun _=>rfl) h2) (gc (bB (E:=cE) (k:=2) (i:=(i:Int)) (fun _=>rfl) (by decide) (Bt _) h2) (gc (bG (E:=cE) (i:=i) (k:=2) (fun _=>rfl) h1 rfl) (gc (cC (E:=cE) (i:=i) (k:=2) (fun _=>rfl) h1) (gc (bB (E:=cE) (k:=2) (i:=(i:Int)) (fun _=>rfl) (by decide) (Bt _) h1) (g0 h0))))))))
theorem aXe(h3:(decide (Bf=Cj) && (decide (Bh=B1) && true))=true)(h4:cp i)(Ai:i'=(i+1)):aA Tp 0 aDx (jJ r t i) .normal (jJ r t i'):=by
 subst Ai;exact aA.fi (gZ bz) [bT,.x (.agg [(aB Bf),(aD Bh)]),.x (.agg [(aB Cj),(aD B1)]),bF] (gc h4 (gc (aW h3) (gc (bG (E:=cE) (i:=i) (k:=2) (fun _=>rfl) h2 rfl) (gc (cC (E:=cE) (i:=i) (k:=2) (fun _=>rfl) h2) (gc (bB (E:=cE) (k:=2) (i:=(i:Int)) (fun _=>rfl) (by decide) (Bt _) h2) (gc (bG (E:=cE) (i:=i) (k:=2) (fun _=>rfl) h1 rfl) (gc (cC (E:=cE) (i:=i) (k:=2) (fun _=>rfl) h1) (gc (bB (E:=cE) (k:=2) (i:=(i:Int)) (fun _=>rfl) (by decide) (Bt _) h1) (g0 h0)))))))))
end
theorem aXf{r t:List Cel}(h0:(r.length:Int)≤(i:Int)):aA Tp 0 aDx (jJ r t i) (.exit 0) (jJ r t i):=aA.fi (gZ bz) [bF] (gc (bH h0) gn)
theorem bGl(r t:List Cel)(h:r.length≤100000){base:Nat}:FV Tp 167 [.p (.sl r.length ((r.map cE).flatten)),.p (.sl t.length ((t.map cE).flatten))] base (pB (decide (r=t))) []:=by
 by_cases hl:r.length=t.length
 ·have hz:(r.zip t).length=r.length:=by rw [List.length_zip,hl,Nat.min_self]
  rcases aF.find (P:=Tp) (k:=0) (b:=aDx) (fun i=>jJ r t i) (fun i _=>cJ (jJ r t i) [(4,.p (blP false))]) (jJ r t r.length) .ret (.exit 0) (by simp) (by simp) (fun q:Cel × Cel => !(decide (q.1=q.2))) (r.zip t)
   (fun i q hx hp=>by
    obtain ⟨h1,h2⟩:=dQ hx;have hi:=bC h1;obtain ⟨⟨a,z⟩,b,y⟩:=q;exact aXe (by omega) h1 h2 (by rw [vY];exact (Bool.not_eq_false' _).mp hp) (aR (by omega)) rfl)
   (fun i q hx hp=>by
    obtain ⟨h1,h2⟩:=dQ hx;have hi:=bC h1;obtain ⟨⟨a,z⟩,b,y⟩:=q;exact aXd (by omega) h1 h2 (by rw [vY];exact (Bool.not_eq_true' _).mp hp))
   (by rw [hz];exact aXf (by omega)) with ⟨i,q,h1,h2,h3,h4⟩ | ⟨h1,h2,h3⟩
  ·have hne:decide (r=t)=false:=by
    apply decide_eq_false;intro e;subst e;obtain ⟨q1,q2⟩:=dQ h1;rw [q1] at q2
    have:q.1=q.2:=by simpa using q2
    simp [this] at h3
   rw [hne];exact bTz (by omega) h4
  ·rw [decide_eq_true (hZ r t hl h2)];exact bTy (by omega) h3
 ·have hne:decide (r=t)=false:=decide_eq_false (fun e=>hl (by rw [e]))
  rw [hne];exact bTx (by omega)
def jK(r t:List Cel)(i:Nat):St:=⟨fr 26 [(0,(.p (.sl r.length ((r.map cE).flatten)))),(1,(.p (.sl t.length ((t.map cE).flatten)))),(12,(pI (r.length:Int))),(13,(pI (i:Int)))],[]⟩
theorem bUa{r t:List Cel}(h0:(r.length:Int)≠(t.length:Int)):FV Tp 46 [(.p (.sl r.length ((r.map cE).flatten))),(.p (.sl t.length ((t.map cE).flatten)))] base (pB false) []:=FV.fi func46 [bT] (gc (eY h0) gn)
theorem bUb{r t:List Cel}(h0:(r.length:Int)=(t.length:Int))(An:aF Tp 0 aDy (jK r t 0) (.exit 0) (jK r t Ap)):FV Tp 46 [(.p (.sl r.length ((r.map cE).flatten))),(.p (.sl t.length ((t.map cE).flatten)))] base (pB true) []:=FV.fi func46 [bF,An.k 4 (gZ bz)] (gc An.code (gc (bL h0) gn))
theorem bUc{r t:List Cel}(h0:(r.length:Int)=(t.length:Int))(An:aF Tp 0 aDy (jK r t 0) .ret (cJ (jK r t Ap) [(4,(pB false))])):FV Tp 46 [(.p (.sl r.length ((r.map cE).flatten))),(.p (.sl t.length ((t.map cE).flatten)))] base (pB false) []:=FV.fi func46 [bF,An.k 4 (gZ bz)] (gc An.code (gc (bL h0) gn))
section
variable{r t:List Cel}{Bh B1:List UInt8}(h0:(i:Int)<(r.length:Int))(h1:r[i]? = some (Bf,Bh))(h2:t[i]? = some (Cj,B1))
include h0 h1 h2
theorem aXg(h3:(decide (Bf=Cj) && (decide (Bh=B1) && true))=false):aA Tp 0 aDy (jK r t i) .ret (cJ (jK r t i) [(4,(pB false))]):=aA.fi (gN br [] [(4,0)]) [bT,.x (.agg [(aB Bf),(aD Bh)]),.x (.agg [(aB Cj),(aD B1)]),bT] (gc (dB h3) (gc (bG (E:=cE) (i:=i) (k:=2) (fun _=>rfl) h2 rfl) (gc (cC (E:=cE) (i:=i) (k:=2) (fun _=>rfl) h2) (gc (bB (E:=cE) (k:=2) (i:=(i:Int)) (fun _=>rfl) (by decide) (Bt _) h2) (gc (bG (E:=cE) (i:=i) (k:=2) (fun _=>rfl) h1 rfl) (gc (cC (E:=cE) (i:=i) (k:=2) (fun _=>rfl) h1) (gc (bB (E:=cE) (k:=2) (i:=(i:Int)) (fun _=>rfl) (by decide) (Bt _) h1) (g0 h0))))))))
theorem aXh(h3:(decide (Bf=Cj) && (decide (Bh=B1) && true))=true)(h4:cp i)(Ai:i'=(i+1)):aA Tp 0 aDy (jK r t i) .normal (jK r t i'):=by
 subst Ai;exact aA.fi (gZ bz) [bT,.x (.agg [(aB Bf),(aD Bh)]),.x (.agg [(aB Cj),(aD B1)]),bF] (gc h4 (gc (aW h3) (gc (bG (E:=cE) (i:=i) (k:=2) (fun _=>rfl) h2 rfl) (gc (cC (E:=cE) (i:=i) (k:=2) (fun _=>rfl) h2) (gc (bB (E:=cE) (k:=2) (i:=(i:Int)) (fun _=>rfl) (by decide) (Bt _) h2) (gc (bG (E:=cE) (i:=i) (k:=2) (fun _=>rfl) h1 rfl) (gc (cC (E:=cE) (i:=i) (k:=2) (fun _=>rfl) h1) (gc (bB (E:=cE) (k:=2) (i:=(i:Int)) (fun _=>rfl) (by decide) (Bt _) h1) (g0 h0)))))))))
end
theorem aXi{r t:List Cel}(h0:(r.length:Int)≤(i:Int)):aA Tp 0 aDy (jK r t i) (.exit 0) (jK r t i):=aA.fi (gZ bz) [bF] (gc (bH h0) gn)
theorem bGm(r t:List Cel)(h:r.length≤100000){base:Nat}:FV Tp 46 [.p (.sl r.length ((r.map cE).flatten)),.p (.sl t.length ((t.map cE).flatten))] base (pB (decide (r=t))) []:=by
 by_cases hl:r.length=t.length
 ·have hz:(r.zip t).length=r.length:=by rw [List.length_zip,hl,Nat.min_self]
  rcases aF.find (P:=Tp) (k:=0) (b:=aDy) (fun i=>jK r t i) (fun i _=>cJ (jK r t i) [(4,.p (blP false))]) (jK r t r.length) .ret (.exit 0) (by simp) (by simp) (fun q:Cel × Cel => !(decide (q.1=q.2))) (r.zip t)
   (fun i q hx hp=>by
    obtain ⟨h1,h2⟩:=dQ hx;have hi:=bC h1;obtain ⟨⟨a,z⟩,b,y⟩:=q;exact aXh (by omega) h1 h2 (by rw [vY];exact (Bool.not_eq_false' _).mp hp) (aR (by omega)) rfl)
   (fun i q hx hp=>by
    obtain ⟨h1,h2⟩:=dQ hx;have hi:=bC h1;obtain ⟨⟨a,z⟩,b,y⟩:=q;exact aXg (by omega) h1 h2 (by rw [vY];exact (Bool.not_eq_true' _).mp hp))
   (by rw [hz];exact aXi (by omega)) with ⟨i,q,h1,h2,h3,h4⟩ | ⟨h1,h2,h3⟩
  ·have hne:decide (r=t)=false:=by
    apply decide_eq_false;intro e;subst e;obtain ⟨q1,q2⟩:=dQ h1;rw [q1] at q2
    have:q.1=q.2:=by simpa using q2
    simp [this] at h3
   rw [hne];exact bUc (by omega) h4
  ·rw [decide_eq_true (hZ r t hl h2)];exact bUb (by omega) h3
 ·have hne:decide (r=t)=false:=decide_eq_false (fun e=>hl (by rw [e]))
  rw [hne];exact bUa (by omega)
def jL(R T:List (List Cel))(i:Nat):St:=⟨fr 27 [(0,(.p (.sl R.length (R.map aN)))),(1,(.p (.sl T.length (T.map aN)))),(12,(pI (R.length:Int))),(13,(pI (i:Int)))],[]⟩
theorem bUd{R T:List (List Cel)}(h0:(R.length:Int)≠(T.length:Int)):FV Tp 117 [(.p (.sl R.length (R.map aN))),(.p (.sl T.length (T.map aN)))] base (pB false) []:=FV.fi func117 [bT] (gc (eY h0) gn)
theorem bUe{R T:List (List Cel)}(h0:(R.length:Int)=(T.length:Int))(An:aF Tp 0 aDz (jL R T 0) (.exit 0) (jL R T Ap)):FV Tp 117 [(.p (.sl R.length (R.map aN))),(.p (.sl T.length (T.map aN)))] base (pB true) []:=FV.fi func117 [bF,An.k 4 (gZ c7)] (gc An.code (gc (bL h0) gn))
theorem bUf{R T:List (List Cel)}(h0:(R.length:Int)=(T.length:Int))(An:aF Tp 0 aDz (jL R T 0) .ret (cJ (jL R T Ap) [(4,(pB false))])):FV Tp 117 [(.p (.sl R.length (R.map aN))),(.p (.sl T.length (T.map aN)))] base (pB false) []:=FV.fi func117 [bF,An.k 4 (gZ c7)] (gc An.code (gc (bL h0) gn))
section
variable{R T:List (List Cel)}{Ab Ay:List Cel}(h0:(i:Int)<(R.length:Int))(h1:R[i]? = some Ab)(h2:T[i]? = some Ay)(h3:Ab.length≤100000)
include h0 h1 h2 h3
theorem aXj(h4:(decide (Ab=Ay))=false):aA Tp 0 aDz (jL R T i) .ret (cJ (jL R T i) [(4,(pB false))]):=have k1:=fk 0 (bGm Ab Ay h3) rfl;aA.fi (gN [2,2,5,7,14,13] [] [(4,0)]) [bT,.x (.sl Ab.length ((Ab.map cE).flatten)),.x (.sl Ay.length ((Ay.map cE).flatten)),k1.o,bT] (gc (dB h4) (gc k1 (gc (atm aN h2) (gc (ixn aN h2) (gc (atm aN h1) (gc (ixn aN h1) (g0 h0)))))))
theorem aXk(h4:(decide (Ab=Ay))=true)(h5:cp i)(Ai:i'=(i+1)):aA Tp 0 aDz (jL R T i) .normal (jL R T i'):=by
 subst Ai;have k1:=fk 0 (bGm Ab Ay h3) rfl;exact aA.fi (gZ c7) [bT,.x (.sl Ab.length ((Ab.map cE).flatten)),.x (.sl Ay.length ((Ay.map cE).flatten)),k1.o,bF] (gc h5 (gc (aW h4) (gc k1 (gc (atm aN h2) (gc (ixn aN h2) (gc (atm aN h1) (gc (ixn aN h1) (g0 h0))))))))
end
theorem aXl{R T:List (List Cel)}(h0:(R.length:Int)≤(i:Int)):aA Tp 0 aDz (jL R T i) (.exit 0) (jL R T i):=aA.fi (gZ c7) [bF] (gc (bH h0) gn)
theorem bUg(R T:List (List Cel))(h:R.length≤100000)(h2:∀ r∈R,r.length≤100000){base:Nat}:FV Tp 117 [.p (bZ R),.p (bZ T)] base (pB (decide (R=T))) []:=by
 by_cases hl:R.length=T.length
 ·have hz:(R.zip T).length=R.length:=by rw [List.length_zip,hl,Nat.min_self]
  rcases aF.find (P:=Tp) (k:=0) (b:=aDz) (fun i=>jL R T i) (fun i _=>cJ (jL R T i) [(4,.p (blP false))]) (jL R T R.length) .ret (.exit 0) (by simp) (by simp) (fun q:List Cel × List Cel => !(decide (q.1=q.2))) (R.zip T)
   (fun i q hx hp=>by
    obtain ⟨h1,h3⟩:=dQ hx;have hi:=bC h1;exact aXk (by omega) h1 h3 (h2 _ (B0 h1)) ((Bool.not_eq_false' _).mp hp) (aR (by omega)) rfl)
   (fun i q hx hp=>by
    obtain ⟨h1,h3⟩:=dQ hx;have hi:=bC h1;exact aXj (by omega) h1 h3 (h2 _ (B0 h1)) ((Bool.not_eq_true' _).mp hp))
   (by rw [hz];exact aXl (by omega)) with ⟨i,q,h1,h2,h3,h4⟩ | ⟨h1,h2,h3⟩
  ·have hne:decide (R=T)=false:=by
    apply decide_eq_false;intro e;subst e;obtain ⟨q1,q2⟩:=dQ h1;rw [q1] at q2
    have:q.1=q.2:=by simpa using q2
    simp [this] at h3
   rw [hne];exact bUf (by omega) h4
  ·rw [decide_eq_true (hZ R T hl h2)];exact bUe (by omega) h3
 ·have hne:decide (R=T)=false:=decide_eq_false (fun e=>hl (by rw [e]))
  rw [hne];exact bUd (by omega)
theorem bUh{R T:List (List Cel)}{r0:Bool}(h0:k=j)(h1:R.length≤100000)(h2:∀ r∈R,r.length≤100000)(Al:r0=(decide (R=T))):FV Tp 24 [(.p (.agg [(aB k),(.sl R.length (R.map aN))])),(.p (.agg [(aB j),(.sl T.length (T.map aN))]))] base (pB r0) []:=by
 subst Al;have k1:=fk 2 (bUg R T h1 h2) rfl;exact FV.fi func24 (rT 5++[k1.o,bT]) (gc (dC h0) (gc k1 (Cg (dC h0) gn)))
theorem bUi{R T:List (List Cel)}(h0:k≠j):FV Tp 24 [(.p (.agg [(aB k),(.sl R.length (R.map aN))])),(.p (.agg [(aB j),(.sl T.length (T.map aN))]))] base (pB false) []:=FV.fi func24 (rF 6) (G3 (bJ h0) gn)
theorem bUj(k:Int)(R:List (List Cel))(j:Int)(T:List (List Cel))(h:R.length≤100000)(h2:∀ r∈R,r.length≤100000){base:Nat}:FV Tp 24 [.p (.agg [aB k,bZ R]),.p (.agg [aB j,bZ T])] base (pB (decide (k=j∧R=T))) []:=by
 by_cases q:k=j
 ·have:=bUh (T:=T) (base:=base) q h h2 rfl
  have e:decide (k=j∧R=T)=decide (R=T):=by simp [q]
  rw [e];exact this
 ·have e:decide (k=j∧R=T)=false:=by simp [q]
  rw [e];exact bUi q
theorem bUk(r:List Cel):((r.map cE).flatten).length=r.length*2:=rM (E:=cE) (k:=2) (fun _=>rfl) r
theorem bUl:FV Tp 86 [] base (.p (.agg [(aB 0),(.sl 2 [(PV.sl (([((7:Int),[]),((0:Int),[]),((1:Int),[])]:List Cel).length) ((([((7:Int),[]),((0:Int),[]),((1:Int),[])]:List Cel).map cE).flatten)),(.sl (([((12:Int),[]),((305:Int),[]),((0:Int),[])]:List Cel).length) ((([((12:Int),[]),((305:Int),[]),((0:Int),[])]:List Cel).map cE).flatten))])])) []:=have k1:=fk 1 (rK 7 0 1) rfl;have k2:=fk 1 (rK 12 305 0) rfl;FV.frz (FMM.fi 0 ⟨[],[],[1],[]⟩ func86 [k1.o,k2.o] (gc k2 (gc k1 gn))) (by kernel_rfl)
def lM:List (List Cel):=[[(7,[]),(0,[]),(1,[])],[(12,[]),(305,[]),(0,[])]]
theorem vZ{base:Nat}:FV Tp 86 [] base (.p (.agg [aB 0,bZ lM])) []:=bUl
end
section
variable {n nx r0 r1 r2 st x0:Int}{l:List Int}

theorem bGj:(65519:Int)≠0:=by first | decide | simp
abbrev dW(n:Int):PV := .v (.int .u8 n)
theorem bMl(h0:n≤1):FMM Tp 83 [(.ptr 0 0),(pI n)] [some (.box 205 [(.p (.sl l.length (l.map dW))),(pI nx),(.p (.v (.int .u32 st)))])] (pI 0) [some (.box 205 [(.p (.sl l.length (l.map dW))),(pI nx),(.p (.v (.int .u32 st)))])]:=FMM.fi 1 gE func83 (rT 7) (I1 (mR h0) gn)
theorem bMm(h0:(1:Int)<n)(h1:(l.length:Int)=0):FMM Tp 83 [(.ptr 0 0),(pI n)] [some (.box 205 [(.p (.sl l.length (l.map dW))),(pI nx),(.p (.v (.int .u32 st)))])] (pI 0) [some (.box 205 [(.p (.sl l.length (l.map dW))),(pI nx),(.p (.v (.int .u32 st)))])]:=FMM.fi 1 gE func83 (rF 7++[bT]) (gc (dC h1) (I1 (eL h0) gn))
theorem bMn(h0:(1:Int)<n)(h1 h2:(l.length:Int)≠0)(h3:l[(nx.tmod (l.length:Int)).toNat]? = some x0)(h4:0≤(nx.tmod (l.length:Int)))(h5:inR (nx.tdiv (l.length:Int)))(h6:inR (nx+1))(h7:(IntKind.wrap .u32 (nx.tdiv (l.length:Int)))=0)(h8:n≤256)(h9:inR (IntKind.wrap .u32 x0))(A9:n≠0)(Al:r0=((IntKind.wrap .u32 x0).tmod n))(Dd:r1=(nx+1))(D9:r2=((IntKind.wrap .u32 ((IntKind.wrap .u32 ((IntKind.wrap .u32 ((IntKind.wrap .u32 (st*45))+(IntKind.wrap .u32 x0)))+(IntKind.wrap .u32 ((77:Int)*(IntKind.wrap .u32 (nx.tdiv (l.length:Int)))))))+1)).tmod 65519)):FMM Tp 83 [(.ptr 0 0),(pI n)] [some (.box 205 [(.p (.sl l.length (l.map dW))),(pI nx),(.p (.v (.int .u32 st)))])] (pI r0) [some (.box 205 [(.p (.sl l.length (l.map dW))),(pI r1),(.p (.v (.int .u32 r2)))])]:=by
 subst Al Dd D9;exact FMM.fi 1 gE func83 (rF 8++[.x (.v (.int .u8 x0)),bT,bT,bT,bT]) (gc A9 (gc h9 (gc (mR h8) (A2 (dC h7) (gc bGj (gc h6 (gc h5 (gc h2 (gt ((l.map dW)[((nx.tmod (l.length:Int)).toNat*1)]? = some (.v (.int .u8 x0))) (sL (i:=(nx.tmod (l.length:Int)).toNat) h3) (gc (sM (g:=dW) h4 h3) (gc h2 (gc (bJ h1) (I1 (eL h0) gn)))))))))))))
theorem bMo(h0:(1:Int)<n)(h1 h2:(l.length:Int)≠0)(h3:l[(nx.tmod (l.length:Int)).toNat]? = some x0)(h4:0≤(nx.tmod (l.length:Int)))(h5:inR (nx.tdiv (l.length:Int)))(h6:inR (nx+1))(h7:(IntKind.wrap .u32 (nx.tdiv (l.length:Int)))=0)(h8:(256:Int)<n)(h9:inR (IntKind.wrap .u32 ((IntKind.wrap .u32 (((IntKind.wrap .u32 ((IntKind.wrap .u32 ((IntKind.wrap .u32 ((IntKind.wrap .u32 (st*45))+(IntKind.wrap .u32 x0)))+(IntKind.wrap .u32 ((77:Int)*(IntKind.wrap .u32 (nx.tdiv (l.length:Int)))))))+1)).tmod 65519)*256))+(IntKind.wrap .u32 x0))))(A9:n≠0)(Al:r0=((IntKind.wrap .u32 ((IntKind.wrap .u32 (((IntKind.wrap .u32 ((IntKind.wrap .u32 ((IntKind.wrap .u32 ((IntKind.wrap .u32 (st*45))+(IntKind.wrap .u32 x0)))+(IntKind.wrap .u32 ((77:Int)*(IntKind.wrap .u32 (nx.tdiv (l.length:Int)))))))+1)).tmod 65519)*256))+(IntKind.wrap .u32 x0))).tmod n))(Dd:r1=(nx+1))(D9:r2=((IntKind.wrap .u32 ((IntKind.wrap .u32 ((IntKind.wrap .u32 ((IntKind.wrap .u32 (st*45))+(IntKind.wrap .u32 x0)))+(IntKind.wrap .u32 ((77:Int)*(IntKind.wrap .u32 (nx.tdiv (l.length:Int)))))))+1)).tmod 65519)):FMM Tp 83 [(.ptr 0 0),(pI n)] [some (.box 205 [(.p (.sl l.length (l.map dW))),(pI nx),(.p (.v (.int .u32 st)))])] (pI r0) [some (.box 205 [(.p (.sl l.length (l.map dW))),(pI r1),(.p (.v (.int .u32 r2)))])]:=by
 subst Al Dd D9;exact FMM.fi 1 gE func83 (rF 8++[.x (.v (.int .u8 x0)),bT,bT,bT,bF]) (gc A9 (gc h9 (gc (eL h8) (A2 (dC h7) (gc bGj (gc h6 (gc h5 (gc h2 (gt ((l.map dW)[((nx.tmod (l.length:Int)).toNat*1)]? = some (.v (.int .u8 x0))) (sL (i:=(nx.tmod (l.length:Int)).toNat) h3) (gc (sM (g:=dW) h4 h3) (gc h2 (gc (bJ h1) (I1 (eL h0) gn)))))))))))))
theorem bMp(h0:(1:Int)<n)(h1 h2:(l.length:Int)≠0)(h3:l[(nx.tmod (l.length:Int)).toNat]? = some x0)(h4:0≤(nx.tmod (l.length:Int)))(h5:inR (nx.tdiv (l.length:Int)))(h6:inR (nx+1))(h7:(IntKind.wrap .u32 (nx.tdiv (l.length:Int)))≠0)(h8:inR (IntKind.wrap .u32 ((IntKind.wrap .u32 (((IntKind.wrap .u32 ((IntKind.wrap .u32 ((IntKind.wrap .u32 ((IntKind.wrap .u32 (st*45))+(IntKind.wrap .u32 x0)))+(IntKind.wrap .u32 ((77:Int)*(IntKind.wrap .u32 (nx.tdiv (l.length:Int)))))))+1)).tmod 65519)*256))+(IntKind.wrap .u32 x0))))(h9:n≠0)(Al:r0=((IntKind.wrap .u32 ((IntKind.wrap .u32 (((IntKind.wrap .u32 ((IntKind.wrap .u32 ((IntKind.wrap .u32 ((IntKind.wrap .u32 (st*45))+(IntKind.wrap .u32 x0)))+(IntKind.wrap .u32 ((77:Int)*(IntKind.wrap .u32 (nx.tdiv (l.length:Int)))))))+1)).tmod 65519)*256))+(IntKind.wrap .u32 x0))).tmod n))(Dd:r1=(nx+1))(D9:r2=((IntKind.wrap .u32 ((IntKind.wrap .u32 ((IntKind.wrap .u32 ((IntKind.wrap .u32 (st*45))+(IntKind.wrap .u32 x0)))+(IntKind.wrap .u32 ((77:Int)*(IntKind.wrap .u32 (nx.tdiv (l.length:Int)))))))+1)).tmod 65519)):FMM Tp 83 [(.ptr 0 0),(pI n)] [some (.box 205 [(.p (.sl l.length (l.map dW))),(pI nx),(.p (.v (.int .u32 st)))])] (pI r0) [some (.box 205 [(.p (.sl l.length (l.map dW))),(pI r1),(.p (.v (.int .u32 r2)))])]:=by
 subst Al Dd D9;exact FMM.fi 1 gE func83 (rF 8++[.x (.v (.int .u8 x0)),bF,bF,bF]) (gc h9 (gc h8 (A2 (bJ h7) (gc bGj (gc h6 (gc h5 (gc h2 (gt ((l.map dW)[((nx.tmod (l.length:Int)).toNat*1)]? = some (.v (.int .u8 x0))) (sL (i:=(nx.tmod (l.length:Int)).toNat) h3) (gc (sM (g:=dW) h4 h3) (gc h2 (gc (bJ h1) (I1 (eL h0) gn))))))))))))
def Cp(z:Int):Int:=IntKind.wrap .u32 z
theorem aGp(z:Int):0≤Cp z∧Cp z<4294967296:=by
 unfold Cp IntKind.wrap;simp only [IntKind.bits,IntKind.signed,Bool.false_and,Bool.false_eq_true,if_false];omega
def aKd(l:List Int)(nx:Int):Int:=Cp (l.getD (nx.tmod (l.length:Int)).toNat 0)
def bGk(l:List Int)(nx st:Int):Int:=(Cp (Cp (Cp (Cp (st*45)+aKd l nx)+Cp (77*Cp (nx.tdiv (l.length:Int))))+1)).tmod 65519
def aV(n:Int)(l:List Int)(nx st:Int):Int × Int × Int:=if n≤1∨l.length=0 then (0,nx,st) else
 (if Cp (nx.tdiv (l.length:Int))=0∧n≤256 then (aKd l nx).tmod n else (Cp (Cp (bGk l nx st*256)+aKd l nx)).tmod n,nx+1,bGk l nx st)
theorem jV(n:Int)(l:List Int)(nx st:Int):0≤(aV n l nx st).1∧((aV n l nx st).1<n∨(aV n l nx st).1=0)∧nx≤(aV n l nx st).2.1∧(aV n l nx st).2.1≤nx+1:=by
 unfold aV
 split
 ·simp;omega
 ·rename_i h
  simp only [not_or] at h
  have h1:∀ z:Int,0≤z→0≤z.tmod n∧z.tmod n<n:=fun z hz=>⟨Int.tmod_nonneg n hz,Int.tmod_lt_of_pos z (by omega)⟩
  have h2:=(aGp (l.getD (nx.tmod (l.length:Int)).toNat 0)).1;have h3:=(aGp (Cp (bGk l nx st*256)+aKd l nx)).1;dsimp only
  split
  ·have:=h1 _ h2;unfold aKd;omega
  ·have:=h1 _ h3;omega
abbrev qB(l:List Int)(nx st:Int):AO := .box 205 [.p (.sl l.length (l.map dW)),.p (aB nx),.p (.v (.int .u32 st))]
theorem lX(n:Int)(l:List Int)(nx st:Int)(h:0≤nx∧nx≤1000000000):FMM Tp 83 [.ptr 0 0,.p (aB n)] [some (qB l nx st)] (.p (aB (aV n l nx st).1)) [some (qB l (aV n l nx st).2.1 (aV n l nx st).2.2)]:=by
 by_cases h1:n≤1
 ·have e:aV n l nx st=(0,nx,st):=by unfold aV;rw [if_pos (.inl h1)]
  rw [e];exact bMl h1
 ·by_cases h2:l.length=0
  ·have e:aV n l nx st=(0,nx,st):=by unfold aV;rw [if_pos (.inr h2)]
   rw [e];exact bMm (by omega) (by omega)
  ·have h0:0≤nx.tmod (l.length:Int)∧nx.tmod (l.length:Int)<(l.length:Int):=⟨Int.tmod_nonneg _ h.1,Int.tmod_lt_of_pos _ (by omega)⟩
   have hq:0≤nx.tdiv (l.length:Int)∧nx.tdiv (l.length:Int)≤nx:=⟨Int.tdiv_nonneg h.1 (by omega),Int.tdiv_le_self _ h.1⟩
   have hi:(nx.tmod (l.length:Int)).toNat<l.length:=by omega
   have hg:l[(nx.tmod (l.length:Int)).toNat]? = some (l.getD (nx.tmod (l.length:Int)).toNat 0):=by
    rw [Bw hi,uP,Bw hi];rfl
   have hw:∀ z,inR (IntKind.wrap .u32 z):=fun z=>by have:=aGp z;unfold Cp at this;unfold inR;omega
   unfold aV;rw [if_neg (by simp only [not_or];exact ⟨h1,h2⟩)]
   dsimp only
   by_cases h3:Cp (nx.tdiv (l.length:Int))=0
   ·by_cases h4:n≤256
    ·rw [if_pos ⟨h3,h4⟩]
     exact bMn (by omega) (by omega) (by omega) hg h0.1 (by show _∧_;omega) (by show _∧_;omega) h3 h4 (hw _) (by omega) rfl rfl rfl
    ·rw [if_neg (fun h=>h4 h.2)]
     exact bMo (by omega) (by omega) (by omega) hg h0.1 (by show _∧_;omega) (by show _∧_;omega) h3 (by omega) (hw _) (by omega) rfl rfl rfl
   ·rw [if_neg (fun h=>h3 h.1)]
    exact bMp (by omega) (by omega) (by omega) hg h0.1 (by show _∧_;omega) (by show _∧_;omega) h3 (hw _) (by omega) rfl rfl rfl
theorem bTs{lo hi:Int}(h0:inR (hi-lo))(h1:inR ((hi-lo)+1))(h2:0≤nx∧nx≤1000000000)(h3:inR (lo+((aV ((hi-lo)+1) l nx st).1)))(Al:r0=(lo+((aV ((hi-lo)+1) l nx st).1)))(Dd:r1=((aV ((hi-lo)+1) l nx st).2.1))(D9:r2=((aV ((hi-lo)+1) l nx st).2.2)):FMM Tp 81 [(.ptr 0 0),(pI lo),(pI hi)] [some (.box 205 [(.p (.sl l.length (l.map dW))),(pI nx),(.p (.v (.int .u32 st)))])] (pI r0) [some (.box 205 [(.p (.sl l.length (l.map dW))),(pI r1),(.p (.v (.int .u32 r2)))])]:=by
 subst Al Dd D9;have k1:=mq [0] 1 (lX ((hi-lo)+1) l nx st h2);exact FMM.fi 1 gE func81 [k1.o] (gc h3 (gc k1 (gc h1 (gc h0 gn))))
def dM(lo hi:Int)(l:List Int)(nx st:Int):Int × Int × Int:=(lo+(aV (hi-lo+1) l nx st).1,(aV (hi-lo+1) l nx st).2)
theorem oL(lo hi:Int)(l:List Int)(nx st:Int):lo≤(dM lo hi l nx st).1∧((dM lo hi l nx st).1≤hi∨(dM lo hi l nx st).1=lo)∧nx≤(dM lo hi l nx st).2.1∧(dM lo hi l nx st).2.1≤nx+1:=by
 have:=jV (hi-lo+1) l nx st;unfold dM;dsimp only;omega
theorem aGq(lo hi:Int)(l:List Int)(nx st:Int)(h:0≤nx∧nx≤1000000000)(hb:(-1000000≤lo∧lo≤1000000) ∧ -1000000≤hi∧hi≤1000000):FMM Tp 81 [.ptr 0 0,.p (aB lo),.p (aB hi)] [some (qB l nx st)] (.p (aB (dM lo hi l nx st).1)) [some (qB l (dM lo hi l nx st).2.1 (dM lo hi l nx st).2.2)]:=by
 have:=oL lo hi l nx st;exact bTs (by show _∧_;omega) (by show _∧_;omega) h (show inR (dM lo hi l nx st).1 by unfold inR;omega) rfl rfl rfl
theorem cCl:FMM Tp 26 [(.p (.sl l.length (l.map dW)))] [] (.ptr 0 0) [some (.box 205 [(.p (.sl l.length (l.map dW))),(pI 0),(.p (.v (.int .u32 17)))])]:=FMM.fi 0 ⟨[],[0],[],[]⟩ func26 [] gn
theorem bTt{v:Int}(h0:(0:Int)<n)(h1:n≠0)(h2:inR ((v.tmod n)+n))(Al:r0=(((v.tmod n)+n).tmod n)){base:Nat}:FV Tp 34 [(pI v),(pI n)] base (pI r0) []:=by
 subst Al;exact FV.fi func34 [bF] (gc h1 (gc h2 (gc h1 (gc (eL h0) gn))))
end
section
variable {k:Int}{base:Nat}

theorem bTm(h0:k=0):FV Tp 43 [(pI k)] base (.tup [(.p (.sl 3 [(aB 0),(aB 1),(aB 0)])),(pI 1)]) []:=FV.frz (FMM.fi 0 ⟨[],[],[0],[]⟩ func43 [bT] (gc (dC h0) gn)) (by kernel_rfl)
theorem bTn(h0:k≠0)(h1:k=1):FV Tp 43 [(pI k)] base (.tup [(.p (.sl 4 [(aB 0),(aB 0),(aB 0),(aB 1)])),(pI 3)]) []:=FV.frz (FMM.fi 0 ⟨[],[],[0],[]⟩ func43 [bF,bT] (gc (dC h1) (gc (bJ h0) gn))) (by kernel_rfl)
section
variable(h0:k≠0)(h1:k≠1)
include h0 h1
theorem bTo(h2:k=2):FV Tp 43 [(pI k)] base (.tup [(.p (.sl 3 [(aB 0),(aB 0),(aB 2)])),(pI 2)]) []:=FV.frz (FMM.fi 0 ⟨[],[],[0],[]⟩ func43 [bF,bF,bT] (gc (dC h2) (gc (bJ h1) (gc (bJ h0) gn)))) (by kernel_rfl)
theorem bTp(h2:k≠2)(h3:k=3):FV Tp 43 [(pI k)] base (.tup [(.p (.sl 4 [(aB 0),(aB 0),(aB 3),(aB 0)])),(pI 1)]) []:=FV.frz (FMM.fi 0 ⟨[],[],[0],[]⟩ func43 [bF,bF,bF,bT] (gc (dC h3) (gc (bJ h2) (gc (bJ h1) (gc (bJ h0) gn))))) (by kernel_rfl)
theorem bTq(h2:k≠2)(h3:k≠3):FV Tp 43 [(pI k)] base (.tup [(.p (.sl 3 [(aB 0),(aB 0),(aB 0)])),(pI 1)]) []:=FV.frz (FMM.fi 0 ⟨[],[],[0],[]⟩ func43 [bF,bF,bF,bF] (gc (bJ h3) (gc (bJ h2) (gc (bJ h1) (gc (bJ h0) gn))))) (by kernel_rfl)
end
theorem aOe(k:Int){base:Nat}:FV Tp 43 [.p (aB k)] base (.tup [.p (bD (aJ k)),.p (aB (aM k))]) []:=by
 unfold aJ aM
 by_cases h0:k=0
 ·subst h0;exact bTm rfl
 ·rw [if_neg h0]
  by_cases h1:k=1
  ·subst h1;exact bTn (by decide) rfl
  ·rw [if_neg h1,if_neg h1]
   by_cases h2:k=2
   ·subst h2;exact bTo (by decide) (by decide) rfl
   ·rw [if_neg h2,if_neg h2]
    by_cases h3:k=3
    ·subst h3;exact bTp (by decide) (by decide) (by decide) rfl
    ·rw [if_neg h3];exact bTq h0 h1 h2 h3
def aAp(v n:Int):Int:=(v.tmod n+n).tmod n
theorem aRr(v:Int){n:Int}(h:0<n) : -n<v.tmod n∧v.tmod n<n:=by
 refine ⟨Int.lt_tmod_of_pos v h,Int.tmod_lt_of_pos v h⟩
theorem aGn(v:Int){n:Int}(h:0<n):0≤aAp v n∧aAp v n<n:=by
 have:=aRr v h;unfold aAp;exact ⟨Int.tmod_nonneg _ (by omega),Int.tmod_lt_of_pos _ h⟩
theorem bGh(v n:Int)(hn:0<n∧n≤1000000){base:Nat}:FV Tp 34 [.p (aB v),.p (aB n)] base (pI (aAp v n)) []:=by
 have:=aRr v hn.1;exact bTt hn.1 (by omega) (by show _∧_;omega) rfl
theorem bTr{v r0:Int}(h0:0<(5:Int)∧(5:Int)≤1000000)(Al:r0=(aAp v 5)):FV Tp 27 [(pI v)] base (pI r0) []:=by
 subst Al;have k1:=fk 0 (bGh v 5 h0) rfl;exact FV.fi func27 [k1.o] (gc k1 gn)
def bM(v:Int):Int:=aAp v 5
theorem aOf(v:Int){base:Nat}:FV Tp 27 [.p (aB v)] base (pI (bM v)) []:=bTr (by decide) rfl
theorem aGo(v:Int):within (bM v) 0 4=true:=by
 have:=aGn v (n:=5) (by decide)
 exact cO.2 (by unfold bM;omega)
theorem bGi{x:Int}(h:0≤x∧x<128):IntKind.wrap .i32 x=x:=by
 unfold IntKind.wrap;simp only [IntKind.bits,IntKind.signed];simp;omega
end
section
variable {k ma mb mc md nx st ta tb tc td Es Gi most:Int}{l:List Int}{i j q j' q' Ip:Nat}

noncomputable abbrev aAo:Code:=sub (cd Tryz.f25) [1,1,1,0,1,0,0,1,1,0,0,1,1,0,1,0,0]
noncomputable abbrev bGc:Code:=sub (cd Tryz.f25) [1,1,1,0,1,0,0]
noncomputable abbrev bGd:Code:=sub (cd Tryz.f25) [1,1,1,0,1,0,0,1,1,0,0,1,1,0,1,0,0,1,1,0,0,1,1,0,1,0,1,1,1,1,1,0,1,0,0]
noncomputable abbrev bGe:Code:=sub (cd Tryz.f25) [1,1,1,0,1,0,0,1,1,0,0,1,1,0,1,0,0,1,1,0,0,1,1,0,1,0,1,1,1,1,1,1,1,0,0]
theorem bQj:((0:Int) == 0)=true:=by first | decide | simp
def pY(l:List Int)(nx st k most:Int)(i Rn:Nat)(Rc:List PV)(ma ta:Int):St:=⟨fr 100 [(0,(.ptr 0 0)),(6,(.ptr 1 0)),(7,(.ptr 2 0)),(8,(.p (bD (aJ k)))),(25,(pI ((aV (most+1) l nx st).1))),(26,(pI (i:Int)))],[some (.box 205 [(.p (.sl l.length (l.map dW))),(pI ma),(.p (.v (.int .u32 ta)))]),some (.box 26 [(pI 0),(.p bK)]),some (.box 26 [(pI k),(.own 3)]),some (.row 78 Rn Rc)]⟩
theorem bTl{Ap:Nat}{R'1:List (List Cel)}{Kn Ko:Int}(h0:inR (most+1))(h1:0≤nx∧nx≤1000000000)(Bl:aF Tp 1 bGc (pY l nx st k most 0 0 [] ((aV (most+1) l nx st).2.1) ((aV (most+1) l nx st).2.2)) (.exit 0) (pY l nx st k most Ap R'1.length ((R'1.map rwE).flatten) Kn Ko)):FMM Tp 25 [(.ptr 0 0),(pI k),(pI most)] [some (.box 205 [(.p (.sl l.length (l.map dW))),(pI nx),(.p (.v (.int .u32 st)))])] (.p (.agg [(aB k),(.sl R'1.length ((R'1.map rwE).flatten))])) [some (.box 205 [(.p (.sl l.length (l.map dW))),(pI Kn),(.p (.v (.int .u32 Ko)))])]:=have k1:=fk 3 (aOe k) rfl;have k2:=mq [0] 3 (lX (most+1) l nx st h1);FMM.fi 1 ⟨[],[],[3],[]⟩ func25 [k1.o,k2.o,Bl.k 1 (gN [1,5,9,16,27,72] [1,2,3] [(102001,78)])] (gc Bl.code (gc k2 (gc h0 (gc k1 gn))))
def eP(l:List Int)(nx st k most:Int)(i:Nat)(R:List (List Cel))(j rn:Nat)(rc:List PV)(mb tb:Int):St:=⟨fr 100 [(0,(.ptr 0 0)),(6,(.ptr 1 0)),(7,(.ptr 2 0)),(8,(.p (bD (aJ k)))),(10,(pI (i:Int))),(11,(.own 4)),(25,(pI ((aV (most+1) l nx st).1))),(26,(pI (i:Int))),(29,(.p (bD (aJ k)))),(30,(pI ((aJ k).length:Int))),(31,(pI (j:Int)))],[some (.box 205 [(.p (.sl l.length (l.map dW))),(pI mb),(.p (.v (.int .u32 tb)))]),some (.box 26 [(pI 0),(.p bK)]),some (.box 26 [(pI k),(.own 3)]),some (.row 78 R.length ((R.map rwE).flatten)),some (.row 80 rn rc)]⟩
theorem aWo{R:List (List Cel)}{Fc:Nat}{Et:List Cel}{Hc Hd:Int}{i':Nat}{R':List (List Cel)}(h0:(i:Int)<((aV (most+1) l nx st).1))(An:aF Tp 1 aAo (eP l nx st k most i R 0 0 [] ma ta) (.exit 2) (eP l nx st k most i R Fc Et.length ((Et.map cE).flatten) Hc Hd))(h2:[(PV.sl Et.length ((Et.map cE).flatten))].length=1*1∧R.length+1≤1000000)(h3:cp i)(Ai:i'=(i+1))(D6:R'.length=(R.length+1))(D7:(R'.map rwE).flatten=(((R.map rwE).flatten)++[(PV.sl Et.length ((Et.map cE).flatten))])):aA Tp 1 bGc (pY l nx st k most i R.length ((R.map rwE).flatten) ma ta) .normal (pY l nx st k most i' R'.length ((R'.map rwE).flatten) Hc Hd):=by
 subst Ai;rw [D6,D7];exact aA.fi (gI [1,5,9,16,27,72] [1,2,6]) [bT,An.k 10 (gN ax [1,2,3,4] [(11,80)])] (gc h3 (gc h2 (gc An.code (g0 h0))))
theorem aWp{R:List (List Cel)}(h0:((aV (most+1) l nx st).1)≤(i:Int)):aA Tp 1 bGc (pY l nx st k most i R.length ((R.map rwE).flatten) ma ta) (.exit 0) (pY l nx st k most i R.length ((R.map rwE).flatten) ma ta):=aA.fi (gI [1,5,9,16,27,72] [1,2,3]) [bF] (gc (bH h0) gn)
def pZ(l:List Int)(nx st k most:Int)(i:Nat)(R:List (List Cel))(j:Nat)(r:List Cel)(mb tb:Int)(q:Nat)(z:List UInt8)(mc tc:Int):St:=⟨fr 100 [(0,(.ptr 0 0)),(6,(.ptr 1 0)),(7,(.ptr 2 0)),(8,(.p (bD (aJ k)))),(10,(pI (i:Int))),(11,(.own 4)),(12,(pI (j:Int))),(14,(.ptr 5 0)),(25,(pI ((aV (most+1) l nx st).1))),(26,(pI (i:Int))),(29,(.p (bD (aJ k)))),(30,(pI ((aJ k).length:Int))),(31,(pI (j:Int))),(67,(pI ((dM 5 8 l mb tb).1))),(68,(pI (q:Int)))],[some (.box 205 [(.p (.sl l.length (l.map dW))),(pI mc),(.p (.v (.int .u32 tc)))]),some (.box 26 [(pI 0),(.p bK)]),some (.box 26 [(pI k),(.own 3)]),some (.row 78 R.length ((R.map rwE).flatten)),some (.row 80 r.length ((r.map cE).flatten)),some (.box 80 [(pI 0),(.p (aD z))])]⟩
def qA(l:List Int)(nx st k most:Int)(i:Nat)(R:List (List Cel))(j:Nat)(r:List Cel)(mb tb:Int)(q:Nat)(z:List UInt8)(md td:Int):St:=⟨fr 100 [(0,(.ptr 0 0)),(6,(.ptr 1 0)),(7,(.ptr 2 0)),(8,(.p (bD (aJ k)))),(10,(pI (i:Int))),(11,(.own 4)),(12,(pI (j:Int))),(14,(.ptr 5 0)),(25,(pI ((aV (most+1) l nx st).1))),(26,(pI (i:Int))),(29,(.p (bD (aJ k)))),(30,(pI ((aJ k).length:Int))),(31,(pI (j:Int))),(38,(pI ((dM 1 12 l mb tb).1))),(39,(pI (q:Int)))],[some (.box 205 [(.p (.sl l.length (l.map dW))),(pI md),(.p (.v (.int .u32 td)))]),some (.box 26 [(pI 0),(.p bK)]),some (.box 26 [(pI k),(.own 3)]),some (.row 78 R.length ((R.map rwE).flatten)),some (.row 80 r.length ((r.map cE).flatten)),some (.box 80 [(pI 0),(.p (aD z))])]⟩
abbrev bGf(l:List Int)(mb tb:Int):=dM 1 99 l ((aV 60 l mb tb).2.1) ((aV 60 l mb tb).2.2)
abbrev cEe(l:List Int)(mb tb:Int):=aV 3 l ((bGf l mb tb).2.1) ((bGf l mb tb).2.2)
abbrev bGg(l:List Int)(mb tb:Int):=aV 60 l mb tb
section
variable(h0:(j:Int)<((aJ k).length:Int))(h1:(aJ k)[j]? = some 0)(h2:0≤mb∧mb≤1000000000)(h3:0≤((aV 60 l mb tb).2.1)∧((aV 60 l mb tb).2.1)≤1000000000)(h4:(-1000000≤1∧(1:Int)≤1000000) ∧ -1000000≤99∧(99:Int)≤1000000)(h5:inR (((aV 60 l mb tb).1)*((dM 1 99 l ((aV 60 l mb tb).2.1) ((aV 60 l mb tb).2.2)).1)))
include h0 h1 h2 h3 h4 h5
theorem aWq{R:List (List Cel)}{r r':List Cel}(h6:(j:Int)=0)(h7:inR ((3:Int)*(i:Int)))(h8:0≤((dM 1 99 l ((aV 60 l mb tb).2.1) ((aV 60 l mb tb).2.2)).2.1)∧((dM 1 99 l ((aV 60 l mb tb).2.1) ((aV 60 l mb tb).2.2)).2.1)≤1000000000)(h9:inR (((3:Int)*(i:Int))+((aV 3 l ((dM 1 99 l ((aV 60 l mb tb).2.1) ((aV 60 l mb tb).2.2)).2.1) ((dM 1 99 l ((aV 60 l mb tb).2.1) ((aV 60 l mb tb).2.2)).2.2)).1)))(A9:[(aB (((3:Int)*(i:Int))+((aV 3 l ((dM 1 99 l ((aV 60 l mb tb).2.1) ((aV 60 l mb tb).2.2)).2.1) ((dM 1 99 l ((aV 60 l mb tb).2.1) ((aV 60 l mb tb).2.2)).2.2)).1))),(aD ([]:List UInt8))].length=1*2∧r.length+1≤1000000)(Da:cp j)(Bz:j'=(j+1))(Dh:r'.length=(r.length+1))(Di:(r'.map cE).flatten=(((r.map cE).flatten)++[(aB (((3:Int)*(i:Int))+((aV 3 l ((dM 1 99 l ((aV 60 l mb tb).2.1) ((aV 60 l mb tb).2.2)).2.1) ((dM 1 99 l ((aV 60 l mb tb).2.1) ((aV 60 l mb tb).2.2)).2.2)).1))),(aD ([]:List UInt8))]))(He:Es=((aV 3 l ((dM 1 99 l ((aV 60 l mb tb).2.1) ((aV 60 l mb tb).2.2)).2.1) ((dM 1 99 l ((aV 60 l mb tb).2.1) ((aV 60 l mb tb).2.2)).2.2)).2.1))(Hf:Gi=((aV 3 l ((dM 1 99 l ((aV 60 l mb tb).2.1) ((aV 60 l mb tb).2.2)).2.1) ((dM 1 99 l ((aV 60 l mb tb).2.1) ((aV 60 l mb tb).2.2)).2.2)).2.2)):aA Tp 1 aAo (eP l nx st k most i R j r.length ((r.map cE).flatten) mb tb) .normal (eP l nx st k most i R j' r'.length ((r'.map cE).flatten) Es Gi):=by
 subst Bz He Hf;have k1:=mq [0] 6 (lX 60 l mb tb h2);have k2:=mq [0] 6 (aGq 1 99 l ((bGg l mb tb).2.1) ((bGg l mb tb).2.2) h3 h4);have k3:=mq [0] 6 (lX 3 l ((bGf l mb tb).2.1) ((bGf l mb tb).2.2) h8);rw [Dh,Di];exact aA.fi (gI ax [1,2,3,7]) [bT,.x (aB 0),bT,k1.o,k2.o,bT,k3.o] (gc Da (gc A9 (gt ([(aB (((3:Int)*(i:Int))+((cEe l mb tb).1))),(aD ([]:List UInt8))].length=2) (by first | decide | simp) (gc h9 (gc k3 (gc h7 (gc (dC h6) (gc h5 (gc k2 (gc k1 (gc bQj (gc (atm aB h1) (gc (ixn aB h1) (g0 h0))))))))))))))
theorem aWr{R:List (List Cel)}{r r':List Cel}(h6:(j:Int)≠0)(h7:[(aB (((aV 60 l mb tb).1)*((dM 1 99 l ((aV 60 l mb tb).2.1) ((aV 60 l mb tb).2.2)).1))),(aD ([]:List UInt8))].length=1*2∧r.length+1≤1000000)(h8:cp j)(Bz:j'=(j+1))(Dh:r'.length=(r.length+1))(Di:(r'.map cE).flatten=(((r.map cE).flatten)++[(aB (((aV 60 l mb tb).1)*((dM 1 99 l ((aV 60 l mb tb).2.1) ((aV 60 l mb tb).2.2)).1))),(aD ([]:List UInt8))]))(He:Es=((dM 1 99 l ((aV 60 l mb tb).2.1) ((aV 60 l mb tb).2.2)).2.1))(Hf:Gi=((dM 1 99 l ((aV 60 l mb tb).2.1) ((aV 60 l mb tb).2.2)).2.2)):aA Tp 1 aAo (eP l nx st k most i R j r.length ((r.map cE).flatten) mb tb) .normal (eP l nx st k most i R j' r'.length ((r'.map cE).flatten) Es Gi):=by
 subst Bz He Hf;have k1:=mq [0] 6 (lX 60 l mb tb h2);have k2:=mq [0] 6 (aGq 1 99 l ((bGg l mb tb).2.1) ((bGg l mb tb).2.2) h3 h4);rw [Dh,Di];exact aA.fi (gI ax [1,2,3,7]) [bT,.x (aB 0),bT,k1.o,k2.o,bF] (gc h8 (gc h7 (gt ([(aB (((bGg l mb tb).1)*((bGf l mb tb).1))),(aD ([]:List UInt8))].length=2) (by first | decide | simp) (gc (bJ h6) (gc h5 (gc k2 (gc k1 (gc bQj (gc (atm aB h1) (gc (ixn aB h1) (g0 h0)))))))))))
end
section
variable(h0:(j:Int)<((aJ k).length:Int))
include h0
theorem aWs{R:List (List Cel)}{r r':List Cel}(h1:(aJ k)[j]? = some 1)(h2:0≤mb∧mb≤1000000000)(h3:(j:Int)≠0)(h4:[(aB ((aV 360001 l mb tb).1)),(aD ([]:List UInt8))].length=1*2∧r.length+1≤1000000)(h5:cp j)(Bz:j'=(j+1))(Dh:r'.length=(r.length+1))(Di:(r'.map cE).flatten=(((r.map cE).flatten)++[(aB ((aV 360001 l mb tb).1)),(aD ([]:List UInt8))]))(He:Es=((aV 360001 l mb tb).2.1))(Hf:Gi=((aV 360001 l mb tb).2.2)):aA Tp 1 aAo (eP l nx st k most i R j r.length ((r.map cE).flatten) mb tb) .normal (eP l nx st k most i R j' r'.length ((r'.map cE).flatten) Es Gi):=by
 subst Bz He Hf;have k1:=mq [0] 6 (lX 360001 l mb tb h2);rw [Dh,Di];exact aA.fi (gI ax [1,2,3,7]) [bT,.x (aB 1),bF,bT,k1.o,bF] (gc h5 (gc h4 (gt ([(aB ((aV 360001 l mb tb).1)),(aD ([]:List UInt8))].length=2) (by first | decide | simp) (gc (bJ h3) (gc k1 (gt (((1:Int) == 1)=true) (by first | decide | simp) (gt (((1:Int) == 0)=false) (by first | decide | simp) (gc (atm aB h1) (gc (ixn aB h1) (g0 h0))))))))))
theorem aWt{R:List (List Cel)}{r:List Cel}{Dc:List UInt8}{Hg Hh:Int}{r':List Cel}(h1:(aJ k)[j]? = some 2)(h2:0≤mb∧mb≤1000000000)(h3:(-1000000≤5∧(5:Int)≤1000000) ∧ -1000000≤8∧(8:Int)≤1000000)(Fe:aF Tp 1 bGd (pZ l nx st k most i R j r mb tb 0 ([]:List UInt8) ((dM 5 8 l mb tb).2.1) ((dM 5 8 l mb tb).2.2)) (.exit 7) (pZ l nx st k most i R j r mb tb Ip Dc Hg Hh))(h5:(j:Int)≠0)(h6:[(aB 0),(aD Dc)].length=1*2∧r.length+1≤1000000)(h7:cp j)(Bz:j'=(j+1))(Dh:r'.length=(r.length+1))(Di:(r'.map cE).flatten=(((r.map cE).flatten)++[(aB 0),(aD Dc)])):aA Tp 1 aAo (eP l nx st k most i R j r.length ((r.map cE).flatten) mb tb) .normal (eP l nx st k most i R j' r'.length ((r'.map cE).flatten) Hg Hh):=by
 subst Bz;have k1:=mq [0] 6 (aGq 5 8 l mb tb h2 h3);rw [Dh,Di];exact aA.fi (gI ax [1,2,3,7]) [bT,.x (aB 2),bF,bF,bT,k1.o,Fe.k 1 (gI al cb),bF] (gc h7 (gc h6 (gt ([(aB 0),(aD Dc)].length=2) (by first | decide | simp) (gc (bJ h5) (gc Fe.code (gc k1 (gt (((2:Int) == 2)=true) (by first | decide | simp) (gt (((2:Int) == 1)=false) (by first | decide | simp) (gt (((2:Int) == 0)=false) (by first | decide | simp) (gc (atm aB h1) (gc (ixn aB h1) (g0 h0))))))))))))
theorem aWu{R:List (List Cel)}{r:List Cel}{Dc:List UInt8}{Hi Hj:Int}{r':List Cel}(h1:(aJ k)[j]? = some 3)(h2:0≤mb∧mb≤1000000000)(h3:(-1000000≤1∧(1:Int)≤1000000) ∧ -1000000≤12∧(12:Int)≤1000000)(Fe:aF Tp 1 bGe (qA l nx st k most i R j r mb tb 0 ([]:List UInt8) ((dM 1 12 l mb tb).2.1) ((dM 1 12 l mb tb).2.2)) (.exit 5) (qA l nx st k most i R j r mb tb Ip Dc Hi Hj))(h5:(j:Int)≠0)(h6:[(aB 0),(aD Dc)].length=1*2∧r.length+1≤1000000)(h7:cp j)(Bz:j'=(j+1))(Dh:r'.length=(r.length+1))(Di:(r'.map cE).flatten=(((r.map cE).flatten)++[(aB 0),(aD Dc)])):aA Tp 1 aAo (eP l nx st k most i R j r.length ((r.map cE).flatten) mb tb) .normal (eP l nx st k most i R j' r'.length ((r'.map cE).flatten) Hi Hj):=by
 subst Bz;have k1:=mq [0] 6 (aGq 1 12 l mb tb h2 h3);rw [Dh,Di];exact aA.fi (gI ax [1,2,3,7]) [bT,.x (aB 3),bF,bF,bF,k1.o,Fe.k 1 (gI am cb),bF] (gc h7 (gc h6 (gt ([(aB 0),(aD Dc)].length=2) (by first | decide | simp) (gc (bJ h5) (gc Fe.code (gc k1 (gt (((3:Int) == 2)=false) (by first | decide | simp) (gt (((3:Int) == 1)=false) (by first | decide | simp) (gt (((3:Int) == 0)=false) (by first | decide | simp) (gc (atm aB h1) (gc (ixn aB h1) (g0 h0))))))))))))
end
theorem aWv{R:List (List Cel)}{r:List Cel}(h0:((aJ k).length:Int)≤(j:Int)):aA Tp 1 aAo (eP l nx st k most i R j r.length ((r.map cE).flatten) mb tb) (.exit 2) (eP l nx st k most i R j r.length ((r.map cE).flatten) mb tb):=aA.fi (gI ax [1,2,3,4]) [bF] (gc (bH h0) gn)
theorem aWw{R:List (List Cel)}{r:List Cel}{z z':List UInt8}{E9 Gg:Int}(h0:(q:Int)<((dM 5 8 l mb tb).1))(h1:0≤mc∧mc≤1000000000)(h2:0≤((aV 2 l mc tc).1)∧((aV 2 l mc tc).1)≤2∧(2:Int)≤2)(h3:0≤(0:Int)∧(0:Int)≤1∧(1:Int)≤((([120,111]:List UInt8).drop (((aV 2 l mc tc).1).toNat)).length:Int))(h4:z.length+((([120,111]:List UInt8).drop (((aV 2 l mc tc).1).toNat)).take 1).length≤4611686018427387904)(h5:cp q)(D8:q'=(q+1))(Kq:z'=(z++((([120,111]:List UInt8).drop (((aV 2 l mc tc).1).toNat)).take 1)))(M8:E9=((aV 2 l mc tc).2.1))(M9:Gg=((aV 2 l mc tc).2.2)):aA Tp 1 bGd (pZ l nx st k most i R j r mb tb q z mc tc) .normal (pZ l nx st k most i R j r mb tb q' z' E9 Gg):=by
 subst D8 Kq M8 M9;have k1:=mq [0] 6 (lX 2 l mc tc h1);exact aA.fi (gI al cb) [bT,k1.o] (gc h5 (gc h4 (gc h3 (gc h2 (gc k1 (g0 h0))))))
theorem aWx{R:List (List Cel)}{r:List Cel}{z:List UInt8}(h0:((dM 5 8 l mb tb).1)≤(q:Int)):aA Tp 1 bGd (pZ l nx st k most i R j r mb tb q z mc tc) (.exit 7) (pZ l nx st k most i R j r mb tb q z mc tc):=aA.fi (gI al cb) [bF] (gc (bH h0) gn)
theorem aWy{R:List (List Cel)}{r:List Cel}{z z':List UInt8}{Ow Ox:Int}(h0:(q:Int)<((dM 1 12 l mb tb).1))(h1:0≤md∧md≤1000000000)(h2:inR ((97:Int)+((aV 26 l md td).1)))(h3:0≤(IntKind.wrap .i32 ((97:Int)+((aV 26 l md td).1)))∧(IntKind.wrap .i32 ((97:Int)+((aV 26 l md td).1)))<128)(h4:z.length+[UInt8.ofNat ((IntKind.wrap .i32 ((97:Int)+((aV 26 l md td).1)))).toNat].length≤4611686018427387904)(h5:cp q)(D8:q'=(q+1))(Kq:z'=(z++[UInt8.ofNat ((IntKind.wrap .i32 ((97:Int)+((aV 26 l md td).1)))).toNat]))(Na:Ow=((aV 26 l md td).2.1))(Nb:Ox=((aV 26 l md td).2.2)):aA Tp 1 bGe (qA l nx st k most i R j r mb tb q z md td) .normal (qA l nx st k most i R j r mb tb q' z' Ow Ox):=by
 subst D8 Kq Na Nb;have k1:=mq [0] 6 (lX 26 l md td h1);exact aA.fi (gI am cb) [bT,k1.o] (gc h5 (gc h4 (gc h3 (gc h2 (gc k1 (g0 h0))))))
theorem aWz{R:List (List Cel)}{r:List Cel}{z:List UInt8}(h0:((dM 1 12 l mb tb).1)≤(q:Int)):aA Tp 1 bGe (qA l nx st k most i R j r mb tb q z md td) (.exit 5) (qA l nx st k most i R j r mb tb q z md td):=aA.fi (gI am cb) [bF] (gc (bH h0) gn)
end
end KV
end Go.Proofs
section
namespace Go.Proofs
open Go.RowKit
namespace KV
open Tryz
variable {P:Program} {C C0:Cx} {M M0:Mem} {w w0:World}

def vC(w:World)(b:Nat):Prop:=∃ o:Obj,w.heap[b]? = some o∧o.isCells=true
theorem tF{b o:Nat}{v:Value}(h:w.cell? ⟨b,o,none⟩=some v):vC w b:=cells_of_cell h
theorem nQ{b ty:Nat}{arr:Array Value}{fr:Nat × Nat}(h:w.heap[b]? = some (.cells arr ty fr)):vC w b:=⟨_,h,rfl⟩

mutual
def nmP:PV→Bool
 | .v _=>true
 | .sl _ cs=>iU cs
 | .agg cs=>iU cs
 | .mp _=>false
 | .rp cs _=>iU cs
 | .fn _ a b=>iU a && iU b
def iU:List PV→Bool
 | []=>true
 | x::r=>nmP x && iU r
end
theorem mD:∀ {l:List PV},iU l=true→∀ (i:Nat) (h:i<l.length),nmP l[i]=true
 | [],_,i,h=>by simp at h
 | x::r,hl,i,h=>by
  rw [iU,B4] at hl
  cases i with
  | zero=>exact hl.1
  | succ i=>exact mD hl.2 i (by simpa using h)
mutual
def nmA:AV→Bool
 | .p x=>nmP x
 | .rp cs _=>iU cs
 | .agg l=>nmL l
 | .tup l=>nmL l
 | .fn _ a b=>nmL a && nmL b
 | _=>true
def nmL:List AV→Bool
 | []=>true
 | x::r=>nmA x && nmL r
end
theorem wI:∀ {l:List AV},nmL l=true→∀ (i:Nat) (h:i<l.length),nmA l[i]=true
 | [],_,i,h=>by simp at h
 | x::r,hl,i,h=>by
  rw [nmL,B4] at hl
  cases i with
  | zero=>exact hl.1
  | succ i=>exact wI hl.2 i (by simpa using h)
def nmM:Mem→Bool
 | []=>true
 | some (.row _ _ cs)::r=>iU cs && nmM r
 | some (.box _ l)::r=>nmL l && nmM r
 | _::r=>nmM r
theorem aPo:∀ {m:Mem},nmM m=true→(∀ (i ty n:Nat) (cs:List PV),m[i]? = some (some (.row ty n cs))→iU cs=true)∧∀ (i ty:Nat) (l:List AV),m[i]? = some (some (.box ty l))→nmL l=true
 | [],_=>⟨fun i ty n cs h=>by simp at h,fun i ty l h=>by simp at h⟩
 | x::r,hm=>by
  have hr:nmM r=true:=by
   cases x with
   | none=>exact hm
   | some o=>cases o <;> simp [nmM] at hm <;> first | exact hm.2 | exact hm
  obtain ⟨h1,h2⟩:=aPo hr;refine ⟨fun i ty n cs h => ?_,fun i ty l h => ?_⟩
  ·cases i with
   | zero=>simp at h;subst h;simp [nmM] at hm;exact hm.1
   | succ i=>exact h1 i ty n cs (by simpa using h)
  ·cases i with
   | zero=>simp at h;subst h;simp [nmM] at hm;exact hm.1
   | succ i=>exact h2 i ty l (by simpa using h)
theorem cS.shrink{F F':Nat→Prop}{x:PV}{u:Value}(h:cS F w x u)(hF:∀ b,F b→vC w b→F' b)(hm:nmP x=true):cS F' w x u:=by
 induction h with
 | v x=>exact .v x
 | sl n cs p cap us h1 h2 h3 _ h5 ih =>
  rw [nmP] at hm
  refine .sl n cs p cap us h1 h2 (fun i hi => ?_) (fun i hi=>ih i hi (mD hm i hi)) h5
  obtain ⟨b,o,hp,hb,hc⟩:=h3 i hi;exact ⟨b,o,hp,hF b hb (tF hc),hc⟩
 | agg cs vs h0 h1 _ ih =>
  rw [nmP] at hm
  exact .agg cs vs h0 h1 fun i hi=>ih i hi (mD hm i hi)
 | mp=>simp [nmP] at hm
 | rp cs off b o us h1 _ h3 ih =>
  rw [nmP] at hm
  exact .rp cs off b o us (fun i hi=>⟨hF b (h1 i hi).1 (tF (h1 i hi).2),(h1 i hi).2⟩) (fun i hi=>ih i hi (mD hm i hi)) h3
 | fn f cs ds us vs h1 h2 _ _ Gq Gr =>
  rw [nmP,B4] at hm
  exact .fn f cs ds us vs h1 h2 (fun i hi=>Gq i hi (mD hm.1 i hi)) fun i hi=>Gr i hi (mD hm.2 i hi)
theorem Rep.shrink{F':Nat→Prop}{x:AV}{u:Value}(h:Rep C M w x u)(hF:∀ b,C.F b→vC w b→F' b)(hm:nmA x=true):Rep ⟨C.ι,C.κ,F',[]⟩ M w x u:=by
 induction h with
 | p x u h=>exact .p x u (h.shrink hF (by simpa [nmA] using hm))
 | any u=>exact .any u
 | kb b=>exact .kb b
 | yld l=>exact .yld l
 | own id u h0 ha h=>exact .own id u h0 ha h
 | arr id off n u h0 ha h=>exact .arr id off n u h0 ha h
 | ptr id off u h0 ha h hp=>exact .ptr id off u h0 ha h hp
 | mp id u h0 ha h=>exact .mp id u h0 ha h
 | pa id q u h0 ha h=>exact .pa id q u h0 ha h
 | rp cs off b o us h1 h2 h3 =>
  have Cq:iU cs=true:=by simpa [nmA] using hm
  exact .rp cs off b o us (fun i hi=>⟨hF b (h1 i hi).1 (tF (h1 i hi).2),(h1 i hi).2⟩) (fun i hi=>(h2 i hi).shrink hF (mD Cq i hi)) h3
 | agg cs vs h0 h1 _ ih =>
  have Cq:nmL cs=true:=by simpa [nmA] using hm
  exact .agg cs vs h0 h1 fun i hi=>ih i hi (wI Cq i hi)
 | tup cs vs h1 _ ih =>
  have Cq:nmL cs=true:=by simpa [nmA] using hm
  exact .tup cs vs h1 fun i hi=>ih i hi (wI Cq i hi)
 | fn f cs ds us vs h1 h2 _ _ Gq Gr =>
  have Cq:nmL cs=true∧nmL ds=true:=by simpa [nmA] using hm
  exact .fn f cs ds us vs h1 h2 (fun i hi=>Gq i hi (wI Cq.1 i hi)) fun i hi=>Gr i hi (wI Cq.2 i hi)

def cDd(M:Mem):Prop:=(∀ (i:Nat) (es:List (Value × PV)) (cl:Nat),M[i]? ≠ some (some (.mp es cl)))∧xT M
def oQ:Mem→Bool
 | []=>true
 | some (.pk _ _ _ _)::_=>false
 | some (.mp _ _)::_=>false
 | _::r=>oQ r
theorem eU:∀ {m:Mem},oQ m=true→cDd m
 | [],_=>⟨fun i es cl h=>by simp at h,fun i o h=>by simp at h⟩
 | none::r,hm=>by
  obtain ⟨h1,h2⟩:=eU (m:=r) hm;refine ⟨fun i es cl h => ?_,fun i o h => ?_⟩
  ·cases i with
   | zero=>simp at h
   | succ i=>exact h1 i es cl (by simpa using h)
  ·cases i with
   | zero=>simp at h
   | succ i=>exact h2 i o (by simpa using h)
 | some x::r,hm=>by
  have hr:oQ r=true∧x.isPk=false∧∀ es cl,x ≠ .mp es cl:=by
   cases x with
   | pk=>simp [oQ] at hm
   | mp=>simp [oQ] at hm
   | _=>exact ⟨by simpa [oQ] using hm,rfl,fun _ _ e=>by cases e⟩
  obtain ⟨h1,h2⟩:=eU (m:=r) hr.1;refine ⟨fun i es cl h => ?_,fun i o h => ?_⟩
  ·cases i with
   | zero=>simp at h;exact hr.2.2 _ _ h
   | succ i=>exact h1 i es cl (by simpa using h)
  ·cases i with
   | zero=>simp at h;rw [← h];exact hr.2.1
   | succ i=>exact h2 i o (by simpa using h)

theorem bAc{W:World}{b:Nat}{cs:Array Value}(h:vX W b=some cs):vC W b:=by
 unfold vX at h
 split at h
 ·rename_i he
  exact nQ he
 ·cases h
theorem rO{W:World}{b:Nat}{o:Obj}(h:W.heap[b]? = some o)(ho:o.isCells=false):¬ vC W b:=fun ⟨o',h',hc⟩=>by rw [h] at h';cases h';rw [ho] at hc;cases hc

structure KpG (F:Nat→Prop) (A B:World):Prop where
 size:A.heap.size≤B.heap.size
 same:∀ b,F b→B.heap[b]? = A.heap[b]?
theorem KpG.refl(F:Nat→Prop)(A:World):KpG F A A:=⟨dD _,fun _ _=>rfl⟩
theorem KpG.trans{F:Nat→Prop}{A B D:World}(h:KpG F A B)(k:KpG F B D):KpG F A D:=⟨iE h.size k.size,fun b hb=>(k.same b hb).trans (h.same b hb)⟩

theorem bIm{ro:Option Nat}{n:Nat}:(Fen ro).room n:=fun d hd=>by cases hd
theorem aPp{ro:Option Nat}{n m:Nat}{c:Code}{Q:Exit→Act→World→Prop}{a:Act}(h:c.wpIn (Fen ro) n P Q a w):c.wpIn (Fen ro) m P Q a w:=fun b k cs hro hb _=>h b k cs hro hb bIm

theorem Kx(p q:Nat)(a b:Value)(t:Array Value):(#[p,q].zip #[a,b]).foldl (fun t (x:Nat × Value)=>t.setIfInBounds x.1 x.2) t=(t.setIfInBounds p a).setIfInBounds q b:=by simp

end KV
end Go.Proofs
end
section
namespace Go.Proofs
open Go.RowKit
namespace KV
open Tryz
variable {P:Program} {C C1:Cx} {M M':Mem} {w W:World} {b:Nat}
theorem nP(v:Value){c:Nat}(h:c≠b):(W.setCell ⟨b,0,none⟩ v).heap[c]? = W.heap[c]? := Below.heap_setCell _ _ _ _ (fun e=>h e)
end KV
end Go.Proofs
end
section
namespace Go.Proofs
open Go.RowKit
namespace KV
open Tryz
variable {P:Program} {C:Cx} {M:Mem} {w:World} {b:Nat}
theorem vB:∀ {M:Mem} {n:Nat} {x:Option AO},n<M.length→(aZ M n x).length=M.length
 | [],_,_,h=>by simp at h
 | y::l,0,x,_=>rfl
 | y::l,n+1,x,h=>by
  show (aZ l n x).length+1=l.length+1;rw [vB (by simpa using h)]
def oP(M M':Mem):Prop:=∀ (id:Nat) (es:List (Value × PV)) (cl:Nat),M'[id]? = some (some (.mp es cl))→(∃ o:AO,M[id]? = some (some o))∧∀ j (h:j<es.length),nmP es[j].2=true
theorem oP.no{M M':Mem}(h:oQ M'=true):oP M M':=fun id es cl hm=>absurd hm ((eU h).1 _ _ _)
def gO(w:World)(b:Nat)(W:World):World:={ w with heap:=w.heap.setIfInBounds b (W.heap.getD b (.cells #[] 0 (0,0))) }
theorem cD(w:World)(b:Nat)(W:World):(gO w b W).heap.size=w.heap.size:=by simp [gO]
theorem aKu{w:World}{b:Nat}{W:World}(h:b<w.heap.size)(h2:b<W.heap.size):(gO w b W).heap[b]? = W.heap[b]? := by
 simp [gO,h,h2,Array.getD]
theorem qP{w:World}{b c:Nat}{W:World}(h:c≠b):(gO w b W).heap[c]? = w.heap[c]? := by
 simp [gO,Ne.symm h]
structure aKv (C:Cx) (M:Mem) (w:World) (b:Nat):Prop where
 nF:¬ C.F b
 nL:∀ (id:Nat) (o:AO),M[id]? = some (some o)→o.live=true→C.ι id≠some b
 lt:b<w.heap.size
 Fs:∀ c,C.F c→c<w.heap.size
 ls:∀ (id:Nat) (o:AO) (c:Nat),M[id]? = some (some o)→o.live=true→C.ι id=some c→c<w.heap.size
def pG(P:Program)(C:Cx)(M:Mem)(w:World)(b:Nat)(M':Mem)(W:World):Prop:=∃ C',aX P C' M' W∧Fr C M (gO w b W) C' M' W
theorem pG.nF{M':Mem}{W:World}{C':Cx}(hA:aKv C M w b)(f:Fr C M (gO w b W) C' M' W):¬ C'.F b:=fun h=>by
 rcases f.F2 b h with h | h | ⟨Eh,o0,q1,q2,q3⟩
 ·exact hA.nF h
 ·rw [cD] at h;have:=hA.lt;omega
 ·exact hA.nL _ _ q1 q2 q3
theorem pG.nL{M':Mem}{W:World}{C':Cx}(hA:aKv C M w b)(f:Fr C M (gO w b W) C' M' W):∀ (id:Nat) (o:AO),M'[id]? = some (some o)→o.live=true→C'.ι id≠some b:=fun id o ho hl he=>by
 rcases f.new id o b ho hl he with h | ⟨Eh,o0,q1,q2,q3⟩
 ·rw [cD] at h;have:=hA.lt;omega
 ·exact hA.nL _ _ q1 q2 q3
theorem aSs{M':Mem}{W w1:World}{C':Cx}(hmp:oP M M')(hls:∀ (id:Nat) (o:AO) (c:Nat),M[id]? = some (some o)→o.live=true→C.ι id=some c→c<w.heap.size)(f:Fr C M w1 C' M' W){id:Nat}{es:List (Value × PV)}{cl c:Nat}(hm:M'[id]? = some (some (.mp es cl)))(hb:C'.ι id=some c):c<w.heap.size:=by
 obtain ⟨⟨o,ho⟩,_⟩:=hmp _ _ _ hm;have hl:=f.liv _ _ ho _ hm rfl;rw [(f.ids _ _ ho).2.1] at hb
 exact hls _ _ _ ho hl hb
theorem cDc{M':Mem}{W:World}(hmp:oP M M')(hq:nmM M'=true)(hF:∀ b,C.F b→b<w.heap.size){C':Cx}(hM:aX P C' M' W)(f:Fr C M w C' M' W) :
  ∃ F':Nat→Prop,aX P ⟨C'.ι,C'.κ,F',[]⟩ M' W∧Fr C M w ⟨C'.ι,C'.κ,F',[]⟩ M' W∧(∀ b,F' b→C'.F b)∧(∀ b,F' b→b<w.heap.size∨vC W b):=by
 refine ⟨fun b=>C'.F b∧(b<w.heap.size∨vC W b),⟨fun i ty n cs hm => ?_,fun i ty cs hm => ?_,fun i es cl hm => ?_,hM.inj,fun i o b ho hl hb hf=>hM.nF i o b ho hl hb hf.1,fun b hb=>hM.Fs b hb.1,hM.lt,fun p hp=>let ⟨h1,cs,h2,h3⟩:=hM.lib p hp;⟨⟨h1,.inr (bAc h2)⟩,cs,h2,h3⟩⟩,
  ⟨f.os,f.tape,f.out,f.size,f.keep,f.ids,f.row,f.liv,f.new,fun b hb=>⟨f.F1 b hb,.inl (hF b hb)⟩,fun b hb=>f.F2 b hb.1⟩,fun b hb=>hb.1,fun b hb=>hb.2⟩
 ·rcases hM.row _ _ _ _ hm with h4 | ⟨b,arr,inf,q0,q1,q2,q3,q4,q5,q6,q7,q8⟩
  ·exact .inl h4
  ·exact .inr ⟨b,arr,inf,q0,q1,q2,q3,q4,q5,q6,fun j hj=>(q7 j hj).shrink (fun b hb hs=>⟨hb,.inr hs⟩) (mD ((aPo hq).1 _ _ _ _ hm) j hj),q8⟩
 ·obtain ⟨b,arr,q0,q1,q2,q3,q4⟩:=hM.box _ _ _ hm
  exact ⟨b,arr,q0,q1,q2,fun j hj=>(q3 j hj).shrink (fun b hb hs=>⟨hb,.inr hs⟩) (wI ((aPo hq).2 _ _ _ hm) j hj),q4⟩
 ·obtain ⟨b,arr,q0,q1,q2,q3⟩:=hM.mp _ _ _ hm
  refine ⟨b,arr,q0,q1,q2,fun j hj => ?_⟩
  obtain ⟨en,r1,r2,r3,r4⟩:=q3 j hj;exact ⟨en,r1,r2,r3,r4.shrink (fun b hb hs=>⟨hb,.inr hs⟩) ((hmp _ _ _ hm).2 j hj)⟩
theorem pG.own{M':Mem}{W W':World}{row:Option Nat}(hmp:oP M M')(hq:nmM M'=true)(hA:aKv C M w b)(h:pG P C M w b M' W)(hg:W.grownBy W' row)
  (hr:∀ r,row=some r→w.heap.size≤r∧∃ o:Obj,W.heap[r]? = some o∧o.isCells=false):pG P C M w b M' W':=by
 obtain ⟨C1,h1,h2⟩:=h;obtain ⟨F',hM,f,hFF,hS⟩:=cDc hmp hq (by rw [cD];exact hA.Fs) h1 h2
 have hwW:w.heap.size≤W.heap.size:=by have:=h2.size;rw [cD] at this;exact this
 have hsame:∀ b,b<W.heap.size→(b<w.heap.size∨vC W b)→W'.heap[b]? = W.heap[b]? := fun b hb hd=>hg.block b hb (fun e=>by
  obtain ⟨q1,o,q2,q3⟩:=hr b e.symm
  rcases hd with hd | hd
  ·omega
  ·exact rO q2 q3 hd)
 rw [cD] at hS
 have hFz:∀ b,F' b→W'.heap[b]? = W.heap[b]? := fun b hb=>hsame b (hM.Fs b hb) (hS b hb)
 have hL:Le ⟨C1.ι,C1.κ,F',[]⟩ ⟨C1.ι,C1.κ,F',[]⟩ M' M' W W':=⟨fun _ o h=>⟨o,h⟩,fun _ _ _ _ _ cs h=>⟨cs,h⟩,fun _ o h o' h' hl=>by rw [h] at h';cases h';exact ⟨hl,rfl,rfl⟩,fun _ h=>h,hFz⟩
 refine ⟨⟨C1.ι,C1.κ,F',[]⟩,⟨fun i ty n cs hm => ?_,fun i ty cs hm => ?_,fun i es cl hm => ?_,hM.inj,hM.nF,fun b hb=>uQ (hM.Fs b hb) hg.size,fun i o b ho hl hb=>uQ (hM.lt i o b ho hl hb) hg.size,hM.lib.le hL⟩,
  ⟨hg.os.trans f.os,hg.tape.trans f.tape,hg.output.trans f.out,by rw [cD];exact iE hwW hg.size,fun c hc hno => ?_,f.ids,f.row,f.liv,fun id o c h q r=>by have:=f.new id o c h q r;rw [cD] at this ⊢;exact this,f.F1,fun c h=>by have:=f.F2 c h;rw [cD] at this ⊢;exact this⟩⟩
 ·rcases hM.row _ _ _ _ hm with h4 | ⟨b,arr,inf,q0,q1,q2,q3,q4,q5,q6,q7,q8⟩
  ·exact .inl h4
  ·exact .inr ⟨b,arr,inf,q0,(hsame b (mF.1 q1).1 (.inr (nQ q1))).trans q1,q2,q3,q4,q5,q6,fun j hj=>(q7 j hj).mono hL.F hL.fz,q8⟩
 ·obtain ⟨b,arr,q0,q1,q2,q3,q4⟩:=hM.box _ _ _ hm
  exact ⟨b,arr,q0,(hsame b (mF.1 q1).1 (.inr (nQ q1))).trans q1,q2,fun j hj=>(q3 j hj).mono hL,q4⟩
 ·obtain ⟨b,arr,q0,q1,q2,q3⟩:=hM.mp _ _ _ hm
  refine ⟨b,arr,q0,(hsame b (mF.1 q1).1 (.inl (aSs hmp hA.ls f hm q0))).trans q1,q2,fun j hj => ?_⟩
  obtain ⟨en,r1,r2,r3,r4⟩:=q3 j hj;exact ⟨en,r1,r2,r3,r4.mono hL.F hL.fz⟩
 ·rw [cD] at hc
  by_cases e:c=b
  ·subst e
   rw [aKu hc (uQ hc (iE hwW hg.size))]
  ·rw [qP e]
   have:=f.keep c (by rw [cD];exact hc) hno
   rw [qP e] at this
   exact (hsame c (uQ hc hwW) (.inl hc)).trans this
theorem pG.set{M':Mem}{W:World}(hA:aKv C M w b)(h:pG P C M w b M' W)(v:Value):pG P C M w b M' (W.setCell ⟨b,0,none⟩ v):=by
 obtain ⟨C1,h1,h2⟩:=h;have hFb:=pG.nF hA h2;have hlb:=pG.nL hA h2;have hsz:(W.setCell ⟨b,0,none⟩ v).heap.size=W.heap.size:=by simp [World.setCell]
 have hwW:w.heap.size≤W.heap.size:=by have:=h2.size;rw [cD] at this;exact this
 have hFz:∀ c,C1.F c→(W.setCell ⟨b,0,none⟩ v).heap[c]? = W.heap[c]? := fun c hc=>nP v (fun e=>hFb (e ▸ hc))
 have hL:Le C1 C1 M' M' W (W.setCell ⟨b,0,none⟩ v):=⟨fun _ o h=>⟨o,h⟩,fun _ _ _ _ _ cs h=>⟨cs,h⟩,fun _ o h o' h' hl=>by rw [h] at h';cases h';exact ⟨hl,rfl,rfl⟩,fun _ h=>h,hFz⟩
 refine ⟨C1,⟨fun i ty n cs hm => ?_,fun i ty cs hm => ?_,fun i es cl hm => ?_,h1.inj,h1.nF,fun c hc=>by rw [hsz];exact h1.Fs c hc,fun i o c ho hl hb=>by rw [hsz];exact h1.lt i o c ho hl hb,h1.lib.le hL⟩,
  ⟨h2.os,h2.tape,h2.out,by rw [hsz,cD];exact hwW,fun c hc hno => ?_,h2.ids,h2.row,h2.liv,fun id o c h q r=>by have:=h2.new id o c h q r;rw [cD] at this ⊢;exact this,h2.F1,fun c h=>by have:=h2.F2 c h;rw [cD] at this ⊢;exact this⟩⟩
 ·rcases h1.row _ _ _ _ hm with h4 | ⟨c,arr,inf,q0,q1,q2,q3,q4,q5,q6,q7,q8⟩
  ·exact .inl h4
  ·exact .inr ⟨c,arr,inf,q0,(nP v (fun (e:c=b)=>hlb _ _ hm rfl (by rw [← e];exact q0))).trans q1,q2,q3,q4,q5,q6,fun j hj=>(q7 j hj).mono hL.F hL.fz,q8⟩
 ·obtain ⟨c,arr,q0,q1,q2,q3,q4⟩:=h1.box _ _ _ hm
  exact ⟨c,arr,q0,(nP v (fun (e:c=b)=>hlb _ _ hm rfl (by rw [← e];exact q0))).trans q1,q2,fun j hj=>(q3 j hj).mono hL,q4⟩
 ·obtain ⟨c,arr,q0,q1,q2,q3⟩:=h1.mp _ _ _ hm
  refine ⟨c,arr,q0,(nP v (fun (e:c=b)=>hlb _ _ hm rfl (by rw [← e];exact q0))).trans q1,q2,fun j hj => ?_⟩
  obtain ⟨en,r1,r2,r3,r4⟩:=q3 j hj;exact ⟨en,r1,r2,r3,r4.mono hL.F hL.fz⟩
 ·rw [cD] at hc
  by_cases e:c=b
  ·subst e
   rw [aKu hc (by rw [hsz];omega)]
  ·rw [qP e,nP v e]
   have:=h2.keep c (by rw [cD];exact hc) hno
   rw [qP e] at this
   exact this
theorem pG.back{bx:Nat}{o:AO}{M':Mem}{W:World}{C':Cx}(ho:M[bx]? = some (some o))(hl:o.live=true)(hb:C.ι bx=some b)(hbl:b<w.heap.size)(f:Fr (C.close bx false) (aZ M bx (some .dead)) (gO w b W) C' M' W):Fr C M w C' M' W:=by
 have h1:=cU (C:=C) (w:=w) false ho hl;refine ⟨f.os,f.tape,f.out,by have:=f.size;rw [cD] at this;exact this,fun c hc hno => ?_,fun id o1 h => ?_,fun id o1 h ty n cs hm => ?_,fun id o1 h o2 hm Bl => ?_,fun id o1 c h q r => ?_,fun c h=>f.F1 c (h1.F1 c h),fun c h => ?_⟩
 ·have hne:c≠b:=fun e=>hno bx o ho hl (by rw [e];exact hb)
  have:=f.keep c (by rw [cD];exact hc) (fun id o1 h2 h3 h4=>by
   rcases h1.new id o1 c h2 h3 h4 with q | ⟨Eh,o0,q1,q2,q3⟩
   ·omega
   ·exact hno _ _ q1 q2 q3)
  rw [qP hne] at this
  exact this
 ·obtain ⟨⟨o2,h2⟩,h3,h4⟩:=h1.ids id o1 h
  obtain ⟨h5,h6,h7⟩:=f.ids id o2 h2;exact ⟨h5,h6.trans h3,h7.trans h4⟩
 ·obtain ⟨⟨o2,h2⟩,_⟩:=h1.ids id o1 h
  obtain ⟨Bg,h3⟩:=f.row id o2 h2 _ _ _ hm;exact h1.row id o1 h _ _ _ h3
 ·obtain ⟨⟨o3,h3⟩,_⟩:=h1.ids id o1 h
  exact h1.liv id o1 h o3 h3 (f.liv id o3 h3 o2 hm Bl)
 ·rcases f.new id o1 c h q r with h2 | ⟨Eh,o0,q1,q2,q3⟩
  ·rw [cD] at h2;exact .inl h2
  ·exact h1.new _ _ _ q1 q2 q3
 ·rcases f.F2 c h with h2 | h2 | ⟨Eh,o0,q1,q2,q3⟩
  ·exact h1.F2 c h2
  ·rw [cD] at h2;exact .inr (.inl h2)
  ·rcases h1.new _ _ _ q1 q2 q3 with h4 | h4
   ·exact .inr (.inl h4)
   ·exact .inr (.inr h4)
theorem bAb{fid bx:Nat}{o:AO}{u:Value}(h:Rep C M w (.fn fid [] [.ptr bx 0]) u)(ho:M[bx]? = some (some o))(hl:o.live=true):∃ c,u = .func (.func fid) #[] #[.pointer (some ⟨c,0,none⟩)]∧C.ι bx=some c:=by
 cases h with
 | fn _ _ _ us vs h1 h2 h3 h4 =>
  have e1:us = #[]:=Array.eq_empty_of_size_eq_zero (by simpa using h1)
  subst e1;have h5:=h4 0 (by simp)
  obtain ⟨v,rfl⟩:∃ v,vs = #[v]:=by
   have:vs.size=1:=by simpa using h2
   exact ⟨vs[0],by ext i Gb Dy;(· simpa using this);(· have:i=0:=(by omega);subst this;rfl)⟩
  simp at h5
  cases h5 with
  | ptr _ _ _ _ _ q _ =>
   obtain ⟨c,rfl,q2⟩:=q o ho hl;exact ⟨c,rfl,q2⟩
def itB{X β ε:Type}(f:β→X→Except ε β):β→List X→Except ε β
 | a,[] => .ok a
 | a,x::r=>match f a x with
  | .ok a'=>itB f a' r
  | .error e => .error e
theorem aKw{X β ε:Type}(f:β→X→Except ε β):∀ (l:List X) (a:β) (x:X),itB f a (l++[x])=match itB f a l with
  | .ok a'=>f a' x
  | .error e => .error e
 | [],a,x=>by
  show (match f a x with | .ok a'=>itB f a' [] | .error e => .error e)=f a x
  cases f a x <;> rfl
 | y::l,a,x=>by
  show (match f a y with | .ok a'=>itB f a' (l++[x]) | .error e => .error e)=_
  show _=match (match f a y with | .ok a'=>itB f a' l | .error e => .error e) with | .ok a'=>f a' x | .error e => .error e
  cases f a y with
  | ok a'=>exact aKw f l a' x
  | error e=>rfl
theorem aEn{X β ε:Type}(f:β→X→Except ε β){e:ε}:∀ (l m:List X) (a:β),itB f a l = .error e→itB f a (l++m) = .error e
 | [],m,a,h=>by cases h
 | y::l,m,a,h=>by
  have h':(match f a y with | .ok a'=>itB f a' l | .error e => .error e) = .error e:=h
  show (match f a y with | .ok a'=>itB f a' (l++m) | .error e => .error e) = .error e
  cases hf:f a y with
  | ok a'=>rw [hf] at h';exact aEn f l m a' h'
  | error e'=>rw [hf] at h';exact h'
end KV
end Go.Proofs
end
section
namespace Go.Proofs
open Go.RowKit
namespace KV
open Tryz
attribute [local go_sem] Oper.semAt_some
def qQ:Nat→List UInt8→List (List UInt8 × Bool)
 | 0,_=>[]
 | k+1,s=>if s=[] then [] else ((Lib.cut s [10]).1,(Lib.cut s [10]).2.2)::qQ k (Lib.cut s [10]).2.1
def cF(s:List UInt8):List (List UInt8 × Bool):=qQ s.length s
theorem aBg{s x:List UInt8}(h:s≠[])(hx:x≠[]):(Lib.cut s x).2.1.length<s.length:=by
 have h1:=List.length_pos_iff.2 h;have h2:=List.length_pos_iff.2 hx;unfold Lib.cut
 split
 ·rw [xY];omega
 ·exact h1
theorem sG:∀ (k j:Nat) (s:List UInt8),s.length≤k→s.length≤j→qQ k s=qQ j s
 | 0,j,s,h,_=>by
  have:s=[]:=uO (by omega)
  subst this;cases j <;> simp [qQ]
 | k+1,0,s,_,h=>by
  have:s=[]:=uO (by omega)
  subst this;simp [qQ]
 | k+1,j+1,s,h,h2=>by
  unfold qQ
  by_cases hs:s=[]
  ·rw [if_pos hs,if_pos hs]
  ·rw [if_neg hs,if_neg hs]
   have:=aBg (s:=s) (x:=[10]) hs (by simp)
   rw [sG k j _ (by omega) (by omega)]
theorem oR:cF []=[]:=rfl
theorem eH{s:List UInt8}(h:s≠[]):cF s=((Lib.cut s [10]).1,(Lib.cut s [10]).2.2)::cF (Lib.cut s [10]).2.1:=by
 have h1:=List.length_pos_iff.2 h;have h2:=aBg (s:=s) (x:=[10]) h (by simp)
 unfold cF;obtain ⟨k,hk⟩:∃ k,s.length=k+1:=⟨s.length-1,by omega⟩
 rw [hk,qQ,if_neg h];rw [sG k (Lib.cut s [10]).2.1.length _ (by omega) (dD _)]
theorem tG:∀ (k:Nat) (s:List UInt8),s.length≤k→(cF s).length≤s.length
 | 0,s,h=>by
  have:s=[]:=uO (by omega)
  subst this;exact dD _
 | k+1,s,h=>by
  by_cases hs:s=[]
  ·subst hs;exact dD _
  ·have:=aBg (s:=s) (x:=[10]) hs (by simp)
   have:=tG k (Lib.cut s [10]).2.1 (by omega)
   rw [eH hs,Cb];omega
end KV
end Go.Proofs
end
section
namespace Go.Proofs
open Go.RowKit Go.Lib Go.Shelf
namespace KV
open Tryz
attribute [local go_sem] Oper.semAt_some
def aKx(W:World)(b:Nat):Nat:=match W.cell? ⟨b,0,none⟩ with
 | some (.string s)=>s.size
 | _=>0
theorem bYv{A B:World}(h:Below A.heap.size A B):A.grownBy B none:=⟨h.os,h.tape,h.output,h.size,fun b hb _=>h.block b hb⟩
set_option maxRecDepth 1000000 in
set_option maxHeartbeats 2000000 in
theorem aKy(s:List UInt8)(hs:s.length<100000)(m:Int)(F0:Nat→Prop)(n l b:Nat)(hn:1≤n)(J Jx:List (List UInt8 × Bool)→World→Prop)
  (hY:∀ pre (x:List UInt8 × Bool) W,J pre W→pre++[x] <+: cF s→YieldAt Fence.wide (n-1) Tp l #[.string ⟨x.1.toArray⟩,.bool x.2] W fun e W' =>
   (e = .returned (.bool true)∧J (pre++[x]) W'∧KpG F0 W W')∨(e = .returned (.bool false)∧Jx (pre++[x]) W'))
  (W:World) (hJ:AbidesFrom W.heap.size J) (J3:F0 0) (hFb:F0 b) (Gk:b≠0)
  (hJb:∀ pre A v,J pre A→J pre (A.setCell ⟨b,0,none⟩ v))
  (hm:W.cell? ⟨0,0,none⟩=some (.int .i64 m)) (hbox:Boxed W b 9 (.string ⟨s.toArray⟩)) (h0:J [] W) :
  CallsIn Fence.wide n Tp 175 #[.func (.yield l) #[] #[],.pointer (some ⟨b,0,none⟩)] W fun e W'=>(∃ v,e = .returned v) ∧
   ((∃ ys,ys=cF s∧J ys W')∨(∃ pre,pre <+: cF s∧Jx pre W')):=by
 have HJ:=hid hJ;have HY:=hid hY;have HJB:=hid hJb;have HB0:=hid hbox;have HJ0:=hid h0;have HM0:=hid hm;clear hJ hY hJb hbox h0 hm;refine callsIn_of_wp func175 rfl trivial ?_ rfl;simp only [Tryz.ntmps175,List.size_toArray,Cb,List.length_nil,Nat.reduceAdd,Nat.reduceSub,Array.replicate_succ,Array.replicate_zero,List.push_toArray,List.append_toArray,List.nil_append,List.cons_append]
 gi_wp2
 gi_loopw [3] (fun _ wr=>∃ (pre:List (List UInt8 × Bool)) (t:List UInt8),J pre wr∧pre++cF t=cF s∧t.length≤s.length∧wr.cell? ⟨0,0,none⟩=some (.int .i64 m)∧Boxed wr b 9 (.string ⟨t.toArray⟩))
  (fun _ wr=>aKx wr b)
 case atStart=>exact ⟨[],s,HJ0.out,rfl,dD _,HM0.out,HB0.out⟩
 case round =>
  obtain ⟨pre,t,hJp,hpre,htl,hm,hB⟩:=hrel;have hc:=hB.cell;have HJP:=hid hJp;have HPRE:=hid hpre;have HM:=hid hm;have HB:=hid hB;clear hJp hpre hm hB
  by_cases ht:t=[]
  ·subst ht
   have HE:=hid (show pre=cF s by rw [← HPRE.out,oR,List.append_nil])
   gi_wp2
   go_end0
   exact ⟨⟨_,rfl⟩,.inl ⟨pre,HE.out,HJP.out⟩⟩
  ·have hne:t.isEmpty=false:=by
    cases t with
    | nil=>exact absurd rfl ht
    | cons a r=>rfl
   have HC:=hid (eH ht);have HLT:=hid (aBg (s:=t) (x:=[10]) ht (by simp))
   have HL:pre++[((Lib.cut t [10]).1,(Lib.cut t [10]).2.2)] <+: cF s:=by
    rw [← HPRE.out,HC.out];exact ⟨cF (cut t [10]).2.1,by rw [List.append_assoc];rfl⟩
   have HL:=hid HL;have HCUT:=hid (Tryz.strings_Cut ⟨t.toArray⟩ ⟨#[10]⟩ m wr (by rw [Lib.size_eq];show t.length<_;omega) HM.out)
   have HWR:=hid (fun w1 (Cr:Below wr.heap.size wr w1)=>HJ.out _ wr w1 none HJP.out (bYv Cr) (fun r e=>by cases e))
   gi_wp2_with (first
    | (refine ⟨trivial,?_⟩;gi_at_call 130;refine (callsIn_wide.2 HCUT.out).mono ?_;clear HCUT;rintro e w1 ⟨rfl,k,rfl⟩;obtain ⟨fn,tmps,assign,body,hy,hR⟩:=HY.out _ ((Lib.cut t [10]).1,(Lib.cut t [10]).2.2) (wr.drewN k) (HWR.out _ wO) HL.out)
    | (refine hR.mono ?_;clear hR;rintro e w3 Rk;(rcases Rk with ⟨rfl,O0,Ky⟩ | ⟨rfl,hx⟩) <;> first | (have L5:Boxed w3 b 9 (.string ⟨t.toArray⟩):=(Ky.same b hFb).trans HB.out;have Oo:=L5.frozen;have hc3:=L5.cell;have HJ3:=hid O0;have HK3:=hid Ky;have HB3:=hid L5;clear O0 Ky L5) | skip))
   ·have Lq:=(HB3.out).set (.string ⟨(cut t [10]).2.1.toArray⟩)
    refine ⟨⟨pre++[((cut t [10]).1,(cut t [10]).2.2)],(cut t [10]).2.1,HJB.out _ _ _ HJ3.out,?_,?_,?_,Lq⟩,?_⟩
    ·rw [← HPRE.out,HC.out,List.append_assoc];rfl
    ·have:=HLT.out;omega
    ·rw [gY (Below.heap_setCell _ _ _ 0 (fun e=>Gk e.symm)) 0,gY (HK3.out.same 0 J3) 0]
     exact HM.out
    ·have e1:aKx (w3.setCell ⟨b,0,none⟩ (.string ⟨(cut t [10]).2.1.toArray⟩)) b=(cut t [10]).2.1.length:=by
      unfold aKx;rw [Lq.cell];exact Lib.size_eq _
     have e2:aKx wr b=t.length:=by
      unfold aKx;rw [HB.out.cell];exact Lib.size_eq _
     rw [e1,e2];exact HLT.out
   ·refine bodyPost_ret (results_none rfl _ _ _) rfl ?_
    refine ⟨⟨_,rfl⟩,.inr ⟨pre++[((cut t [10]).1,(cut t [10]).2.2)],?_,hx⟩⟩;rw [← HPRE.out,HC.out];exact ⟨cF (cut t [10]).2.1,by rw [List.append_assoc];rfl⟩
end KV
end Go.Proofs
end
section
namespace Go.Proofs
open Go.RowKit
namespace KV
open Tryz
variable {P:Program} {n:Nat}
def aEp{α:Type}(F:Fence)(n:Nat)(P:Program)(g:Nat)(lb:Array Value)(encs:α→Array Value)(b:Nat)(Kp:World→World→Prop)(S Sp:List α→Prop)(N:List α→α→Prop)(w:World):Prop :=
 ∀ (l:Nat) (J Jx:List α→World→Prop) (W:World),Below w.heap.size w W→AbidesFrom W.heap.size J→AbidesFrom W.heap.size Jx→(∀ pre A v,J pre A→J pre (A.setCell ⟨b,0,none⟩ v)) →
  (∀ pre x W0,J pre W0→N pre x→YieldAt F (n-1) P l (encs x) W0 fun e W' =>
   (e = .returned (.bool true)∧J (pre++[x]) W'∧Kp W0 W')∨(e = .returned (.bool false)∧Jx (pre++[x]) W')) →
  J [] W →
  CallsIn F n P g (#[.func (.yield l) #[] #[]]++lb) W fun e W'=>(∃ v,e = .returned v)∧((∃ xs,S xs∧J xs W')∨(∃ pre,Sp pre∧Jx pre W'))

def bIn{α:Type}(B:Nat)(Kp:World→World→Prop)(I:List α→World→Prop)(Ix:Code→List α→World→Prop)(xs:List α)(V W:World):Exit→Act→World→Prop
 | .normal,_,W'=>KeepsFrom B W W'∧Kp V W'∧I xs W'
 | .ret,_,W'=>KeepsFrom B W W'∧Ix .ret xs W'
 | .exit id,_,W'=>KeepsFrom B W W'∧Ix (.exit id) xs W'
 | .goto t,_,W'=>KeepsFrom B W W'∧Ix (.goto t) xs W'
 | .panic _,_,_=>False
 | .outgrown,_,_=>False

theorem tH{α:Type}{F:Fence}{g:Operand}{ps:Array Tmp}{assign body:Code}{Q:Exit→Act→World→Prop}{a:Act}{w:World}
  (hro:F.round=none) (h1:1≤n) {gf:Nat} {lb:Array Value} (hg:a.eval g = .func (.func gf) #[] lb) (hFg:F.fn gf) (eg:∀ args w,(callFunc gf args).run P w = .ok (.enter gf args) w)
  {encs:α→Array Value} {b:Nat} {Kp:World→World→Prop} {S Sp:List α→Prop} {N:List α→α→Prop} {w0:World} (hseq:aEp F (n-1) P gf lb encs b Kp S Sp N w0)
  (hKt:∀ {A B C:World},Kp A B→Kp B C→Kp A C) (hKb:∀ (W:World) (l:Nat) (o o':Obj),w.heap.size≤l→W.heap[l]? = some o→o.isCells=false→o.isWalk=false→Kp W (W.putObj l o')) (Gk:Below w0.heap.size w0 w) (hps:∀ x,(encs x).size=ps.size)
  (I:List α→World→Prop) (Ix:Code→List α→World→Prop) (hI:OwnFrom w.heap.size I) (hbl:b<w.heap.size) (hIb:∀ pre A v,I pre A→I pre (A.setCell ⟨b,0,none⟩ v)) (hIx:∀ c,OwnFrom w.heap.size (Ix c)) (h0:I [] w) (Ax:List α→α→World→Act→World→Prop) (hAx:∀ pre x V a',OwnFrom w.heap.size (fun (_:Unit) W=>Ax pre x V a' W))
  (hassign:∀ (l:Nat) (pre:List α) (x:α) (V W:World) (K:Act→World→Prop),V=W→I pre V→(∀ a' W',KeepsFrom w.heap.size W W'→Ax pre x V a' W'→K a' W') →
   assign.wpIn (F.inRound l) (n-1-1) P (Exit.then K (fun _ _ _=>False)) { tmps:=(ps.zip (encs x)).foldl (fun t (p,v)=>t.setIfInBounds p v) a.tmps,defers:=[] } W)
  (hbody:∀ (l:Nat) (pre:List α) (x:α) (a':Act) (V W:World),w.heap.size≤l→(∃ r,W.heap[l]? = some (.loop r))→Ax pre x V a' W→N pre x→body.wpIn (F.inRound l) (n-1-1) P (bIn w.heap.size Kp I Ix (pre++[x]) V W) a' W)
  (hdone:∀ (D:Nat) (xs:List α) (W:World),w.heap.size≤D→S xs→I xs W→W.heap[D]? = some (.deferred (some []))→Q .normal { a with defers:={ target := .collected D,args := #[] }::a.defers } W)
  (hstop:∀ (D:Nat) (c:Code) (pre:List α) (W:World),w.heap.size≤D→Sp pre→Ix c pre W→W.heap[D]? = some (.deferred (some []))→c.wpIn F n P Q { a with defers:={ target := .collected D,args := #[] }::a.defers } W) :
  (Code.rangeFunc g ps assign body).wpIn F n P Q a w:=by
 refine wpIn_rangeFunc fun fn hfn => ?_
 rw [hro];obtain ⟨rc,hrc⟩:∃ rc:LoopState→Option Code→Loop,rc=fun st pe=>{ state:=st,pending:=pe,fn,tmps:=a.tmps,params:=ps,assign,body,defers:=w.heap.size }:=⟨_,rfl⟩
 obtain ⟨W1,J4⟩:∃ W1,(w.alloc (.deferred (some []))).alloc (.loop (rc .ready none))=W1:=⟨_,rfl⟩;have hsz:W1.heap.size=w.heap.size+2:=by rw [← J4];simp
 have Rl:W1.heap[w.heap.size+1]? = some (.loop (rc .ready none)):=by
  have:=World.alloc_heap_new (w.alloc (.deferred (some []))) (.loop (rc .ready none));rw [World.size_alloc] at this
  rw [← J4];exact this
 have Rm:W1.heap[w.heap.size]? = some (.deferred (some [])):=by
  rw [← J4];exact (Below.heap_alloc _ _ _ (by simp)).trans (World.alloc_heap_new w _)
 have Ro:I [] W1:=by rw [← J4];exact hI.alloc _ (hI.alloc _ h0)
 have Cr:Below w0.heap.size w0 W1:=by
  rw [← J4];exact Gk.trans ((((Below.refl _ w).alloc (dD _) _).alloc (by simp) _).mono Gk.size)
 let Bk (st:LoopState) (pe:Option Code) (W:World):Prop:=W.heap[w.heap.size+1]? = some (.loop (rc st pe))∧W.heap[w.heap.size]? = some (.deferred (some []))
 have bkKeep:∀ {st:LoopState} {pe:Option Code} {A B:World} {row:Option Nat},Bk st pe A→A.grownBy B row→(∀ r,row=some r→∃ o:Obj,A.heap[r]? = some o∧o.isWalk=true)→Bk st pe B:=fun hs It hr =>
  ⟨(grownBy_keeps It hr hs.1 rfl).trans hs.1,(grownBy_keeps It hr hs.2 rfl).trans hs.2⟩
 have walkOwn:∀ {A:World} {row:Option Nat},(∀ r,row=some r→W1.heap.size≤r∧∃ o:Obj,A.heap[r]? = some o∧o.isWalk=true)→∀ r,row=some r→w.heap.size≤r∧∃ o:Obj,A.heap[r]? = some o∧o.isCells=false:=fun hr r e=>by
  obtain ⟨hB,o,ho,hw⟩:=hr r e;exact ⟨by omega,o,ho,Obj.not_cells_of_walk hw⟩
 refine ⟨w.heap.size+1,[{ target := .collected w.heap.size,args := #[] }],W1,{ target := .fn (.func gf) lb,args := #[.func (.yield (w.heap.size+1)) #[] #[]] },W1,gf,
  #[.func (.yield (w.heap.size+1)) #[] #[]]++lb,W1,?_,?_,?_,?_,fun _=>h1,?_⟩
 ·rw [← J4,hrc];exact run_enterLoop_outer _ _ _ _ _
 ·simp only [resolve,hg]
  simp [go_sem]
 ·intro f' O1;simp [Target.leads] at O1;subst O1;exact hFg
 ·simp [invoke,go_sem,eg]
 ·refine (hseq (w.heap.size+1) (fun pre W=>I pre W∧Bk .ready none W) (fun pre W=>∃ c,Ix c pre W∧Bk .done (some c) W) W1 Cr
   (fun s A B row hs It hr=>⟨hI s A B row hs.1 It (walkOwn hr),bkKeep hs.2 It fun r e=>(hr r e).2⟩)
   (fun s A B row hs It hr=>by
    obtain ⟨c,hc,hb⟩:=hs;exact ⟨c,hIx c s A B row hc It (walkOwn hr),bkKeep hb It fun r e=>(hr r e).2⟩)
   (fun s A v hs=>⟨hIb s A v hs.1,(Below.heap_setCell _ _ _ _ (fun e=>by have:w.heap.size+1=b:=e;omega)).trans hs.2.1,(Below.heap_setCell _ _ _ _ (fun e=>by have:w.heap.size=b:=e;omega)).trans hs.2.2⟩)
   ?_ ⟨Ro,Rl,Rm⟩).mono ?_
  ·-- a round
   rintro pre x W ⟨hi,hbk⟩ hlen;have hbW:=hbk;have hlt:w.heap.size+1<W.heap.size:=(mF.1 hbW.1).1;have hy:=run_yield (P:=P) (args:=encs x) hbW.1 (by rw [hrc];exact hps x)
   rw [hrc] at hy
   refine ⟨fn,_,assign,body,hy,roundIn_of_wpIn hfn (hassign _ pre x W W _ rfl hi ?_)⟩;clear hy;intro a' Wa hkf hax;have hl:=hkf.same _ _ (by omega) hbW.1 rfl
   have hk:=hkf.same _ _ (dD _) hbW.2 rfl;have hlta:w.heap.size+1<Wa.heap.size:=(mF.1 hl).1;refine ⟨_,run_beginRound hl (by rw [hrc]),?_⟩
   have Bl:(Wa.putObj (w.heap.size+1) (.loop { rc .ready none with state := .busy })).heap[w.heap.size+1]? = some (.loop { rc .ready none with state := .busy }):=World.putObj_heap_same hlta
   have Cv:(Wa.putObj (w.heap.size+1) (.loop { rc .ready none with state := .busy })).heap[w.heap.size]? = some (.deferred (some [])):=(World.putObj_heap_other (by omega)).trans hk
   refine wpIn_mono (hbody _ pre x a' W _ (by omega) ⟨_,Bl⟩ ((hAx pre x W a').putObj (s:=()) _ hax (by omega) hl rfl) hlen) ?_
   have fin:∀ (jump:Option Code) (W3:World),KeepsFrom w.heap.size (Wa.putObj (w.heap.size+1) (.loop { rc .ready none with state := .busy })) W3 →
     (Instr.endRound (w.heap.size+1) jump).run P W3 = .ok (.bool jump.isNone) (W3.putObj (w.heap.size+1) (.loop (rc (if jump.isNone then .ready else .done) jump))) ∧
     W3.heap[w.heap.size+1]? = some (.loop { rc .ready none with state := .busy })∧Bk (if jump.isNone then .ready else .done) jump (W3.putObj (w.heap.size+1) (.loop (rc (if jump.isNone then .ready else .done) jump))):=fun jump W3 H1=>by
    have Em:=H1.same _ _ (by omega) Bl rfl
    have hrun:=run_endRound (P:=P) jump Em;rw [hrc] at hrun
    refine ⟨by rw [hrc];exact hrun,Em,?_⟩
    exact ⟨World.putObj_heap_same (mF.1 Em).1,(World.putObj_heap_other (by omega)).trans (H1.same _ _ (dD _) Cv rfl)⟩
   rintro e a3 W3 hp;cases e with
   | normal =>
    obtain ⟨H1,Nq,Jd⟩:=hp;obtain ⟨hr,Em,Je⟩:=fin none W3 H1;exact ⟨_,_,hr,.inl ⟨rfl,⟨hI.putObj _ Jd (by omega) Em rfl,Je⟩,hKt Nq (hKb _ _ _ _ (by omega) Em rfl rfl)⟩⟩
   | ret =>
    obtain ⟨H1,Jd⟩:=hp;obtain ⟨hr,Em,Je⟩:=fin (some .ret) W3 H1;exact ⟨_,_,hr,.inr ⟨rfl,.ret,(hIx _).putObj _ Jd (by omega) Em rfl,Je⟩⟩
   | exit id =>
    obtain ⟨H1,Jd⟩:=hp;obtain ⟨hr,Em,Je⟩:=fin (some (.exit id)) W3 H1;exact ⟨_,_,hr,.inr ⟨rfl,.exit id,(hIx _).putObj _ Jd (by omega) Em rfl,Je⟩⟩
   | goto t =>
    obtain ⟨H1,Jd⟩:=hp;obtain ⟨hr,Em,Je⟩:=fin (some (.goto t)) W3 H1;exact ⟨_,_,hr,.inr ⟨rfl,.goto t,(hIx _).putObj _ Jd (by omega) Em rfl,Je⟩⟩
   | panic ch=>exact hp.elim
   | outgrown=>exact hp.elim
  ·-- behind the iterator
   rintro e W2 ⟨⟨v,rfl⟩,(⟨xs,hS,hi,hb⟩ | ⟨pre,hSp,c,hi,hb⟩)⟩
   ·have:=run_endLoop (P:=P) hb.1 (by rw [hrc];simp)
    rw [hrc] at this
    exact ⟨none,_,this,hdone _ xs _ (dD _) hS (hI.putObj _ hi (by omega) hb.1 rfl) ((World.putObj_heap_other (by omega)).trans hb.2)⟩
   ·have:=run_endLoop (P:=P) hb.1 (by rw [hrc];simp)
    rw [hrc] at this
    exact ⟨some c,_,this,hstop _ c pre _ (dD _) hSp ((hIx c).putObj _ hi (by omega) hb.1 rfl) ((World.putObj_heap_other (by omega)).trans hb.2)⟩
end KV
end Go.Proofs
end
section
namespace Go.Proofs
open Go.RowKit
namespace KV
open Tryz
def aEo(x:List UInt8 × Bool):Array Value := #[.string ⟨x.1.toArray⟩,.bool x.2]
theorem bAd(s:List UInt8)(hs:s.length<100000)(m:Int)(F0:Nat→Prop)(n b:Nat)(hn:1≤n)(w:World)(J3:F0 0)(hFb:F0 b)(Gk:b≠0)
  (hm:w.cell? ⟨0,0,none⟩=some (.int .i64 m)) (hbox:Boxed w b 9 (.string ⟨s.toArray⟩)) :
  aEp Fence.wide n Tp 175 #[.pointer (some ⟨b,0,none⟩)] aEo b (KpG F0) (fun ys=>ys=cF s) (fun pre=>pre <+: cF s) (fun pre x=>pre++[x] <+: cF s) w:=by
 intro l J Jx W hb hJ hJx hJb hY h0;have L3:0<w.heap.size:=aSn hm;exact aKy s hs m F0 n l b hn J Jx (fun pre x W0 hj hlt=>hY pre x W0 hj hlt) W hJ J3 hFb Gk hJb
  (by rw [gY (hb.block 0 L3) 0];exact hm) ((hb.block b hbox.lt).trans hbox) h0
end KV
end Go.Proofs
end
section
set_option maxRecDepth 1000000
namespace Go.Proofs
open Go.RowKit
namespace KV
open Tryz
theorem bIk{C:Cx}{w:World}(h:oY C w):C.F 0∧∃ m,w.cell? ⟨0,0,none⟩=some (.int .i64 m):=by
 refine ⟨(h (0,fun cs=>∃ m,cs[0]? = some (.int .i64 m)) (by simp [bSx])).1,?_⟩
 exact (yL h).1
theorem bIl{P:Program}{C:Cx}{M:Mem}{w:World}{bx ty c:Nat}{v:Value}(hM:aX P C M w)(hbx:M[bx]? = some (some (.box ty [.p (.v v)])))(hc:C.ι bx=some c):Boxed w c ty v:=by
 obtain ⟨b,arr,q0,q1,q2,q3,_⟩:=hM.box _ _ _ hbx;rw [hc] at q0;cases q0
 obtain ⟨u,rfl⟩:∃ u,arr = #[u]:=by
  have:arr.size=1:=by simpa using q2
  exact ⟨arr[0],by ext i Gb Dy;(· simpa using this);(· have:i=0:=(by omega);subst this;rfl)⟩
 have h:=q3 0 (by simp)
 simp at h
 cases h with
 | p _ _ h=>cases h;exact q1
def bW(P:Program)(kb kk:Nat)(body:Code)(st:St)(e:Ex)(m:Mem):Prop:=∃ (E:St) (g:Gh),aA P kb body st e E∧yP E.m=true∧∃ t',gh kk g E=some ⟨t',m⟩
theorem bW.cast{P:Program}{kb kk:Nat}{body:Code}{st:St}{e:Ex}{m m':Mem}(h:bW P kb kk body st e m)(he:m=m'):bW P kb kk body st e m':=he ▸ h
theorem aBf{β ε:Type}{k kb kk gi p1 p2 bx:Nat}{asg body cc:Code}{g0:Gh}(s:List UInt8)(hs:s.length<100000)(Fy:St)(S:β→St)(R:ε→St)(T:List AV)(f:β→List UInt8 × Bool→Except ε β)(a0:β)
  (s1:List AV→List UInt8 × Bool→List AV) (actOf:Act→List UInt8 × Bool→Act)
  (hcc:cc = .rangeFunc (.tmp gi) #[p1,p2] asg body) (Q7:Fy.t=T) (hg:T[gi]? = some (.fn 175 [] [.ptr bx 0])) (hbx:Fy.m[bx]? = some (some (.box 9 [.p (aD s)])))
  (hkk:Fy.m.length≤kk) (h0:∃ t',gh kk g0 ⟨T,aZ Fy.m bx (some .dead)⟩=some ⟨t',(S a0).m⟩)
  (hST:∀ a,(S a).t=T) (hRT:∀ e,(R e).t=T)
  (hmp:∀ a,oP (aZ Fy.m bx (some .dead)) (S a).m) (hmpR:∀ e,oP (aZ Fy.m bx (some .dead)) (R e).m) (hpk:∀ a,xT (S a).m) (hpkR:∀ e,xT (R e).m) (Nh:xT (aZ Fy.m bx (some .dead))) (hq:∀ a,nmM (S a).m=true) (hqR:∀ e,nmM (R e).m=true) (hlen:∀ a,(S a).m.length≤kb) (hnrf:nrf body=true)
  (Q8:∀ (a:Act) (x:List UInt8 × Bool) (l:Nat) (K:Act→World→Prop) (W:World),K (actOf a x) W→asg.wpIn ((Fen none).inRound l) (3-1-1) Tp (Exit.then K (fun _ _ _=>False)) { tmps:=(#[p1,p2].zip (aEo x)).foldl (fun t (y:Nat × Value)=>t.setIfInBounds y.1 y.2) a.tmps,defers:=[] } W)
  (hA2:∀ (a:Act) (x:List UInt8 × Bool) (C:Cx) (M:Mem) (W:World),cQ C M W T a.tmps→cQ C M W (s1 T x) (actOf a x).tmps) (Q9:∀ (a:Act) (x:List UInt8 × Bool),(actOf a x).defers=[])
  (hbody:∀ pre x a,pre++[x] <+: cF s→itB f a0 pre = .ok a →
   (∀ a',f a x = .ok a'→bW Tp kb kk body ⟨s1 T x,(S a).m⟩ .normal (S a').m)∧(∀ e,f a x = .error e→bW Tp kb kk body ⟨s1 T x,(S a).m⟩ .ret (R e).m)) :
  (∀ a,itB f a0 (cF s) = .ok a→aA Tp k cc Fy .normal (S a))∧(∀ e,itB f a0 (cF s) = .error e→aA Tp k cc Fy .ret (R e)):=by
 have hlk:(aZ Fy.m bx (some .dead)).length≤kk:=by
  rw [vB (Ci.1 hbx).1];exact hkk
 have main:∀ (Qf:Ex→St→Prop),(∀ a,itB f a0 (cF s) = .ok a→Qf .normal (S a))→(∀ e,itB f a0 (cF s) = .error e→Qf .ret (R e)) →
   ∀ (C0:Cx) (M0:Mem) (w0:World) (a:Act) (w:World),M0.length≤k→Sim Tp C0 M0 w0 Fy a w→∀ (ro:Option Nat),kE ro cc→∀ (n:Nat),cc.wpIn (Fen ro) n Tp (fun e' a' w'=>∃ e Aj,Qf e Aj∧e'=e.toExit∧Sim Tp C0 M0 w0 Aj a' w') a w:=by
  intro Qf Ra Rb C0 M0 w0 a w hk B6 ro hro n;subst hcc;have Ni:ro=none:=hro.resolve_right (by simp [nrf])
  subst Ni;refine aPp (n:=3) ?_;obtain ⟨C,hSl,hM,hF,hD⟩:=B6;rw [Q7] at hSl
  obtain ⟨b,hu,hb⟩:=bAb (hSl.at hg) hbx rfl
  have hB:=bIl hM hbx hb;obtain ⟨J3,m,hm⟩:=bIk hM.lib;have hbF:¬ C.F b:=hM.nF _ _ _ hbx rfl hb;have Gk:b≠0:=fun e=>hbF (e ▸ J3)
  have hbl:b<w.heap.size:=hM.lt _ _ _ hbx rfl hb;obtain ⟨Cd,hCd⟩:∃ Cd,Cd=C.close bx false:=⟨_,rfl⟩;obtain ⟨Md,hMd⟩:∃ Md,Md=aZ Fy.m bx (some .dead):=⟨_,rfl⟩;have hMM:aX Tp Cd Md w:=by rw [hCd,hMd];exact lE hM false hbx rfl
  have hFd:Fr C Fy.m w Cd Md w:=by rw [hCd,hMd];exact cU false hbx rfl
  have hA:aKv Cd Md w b:=by
   refine ⟨fun h => ?_,fun id o ho hl he => ?_,hbl,hMM.Fs,fun id o c ho hl he=>hMM.lt id o c ho hl he⟩
   ·rw [hCd] at h
    rcases h with h | ⟨h,_⟩
    ·exact hbF h
    ·cases h
   ·rw [hMd] at ho
    rw [hCd] at he
    by_cases e:id=bx
    ·subst e;rw [aY] at ho;cases ho;cases hl
    ·have Cs:=(aP Fy.m bx id _ o (fun e'=>e e'.symm)).1 ho
     exact e (hM.inj _ _ _ _ _ Cs hl hbx rfl he hb)
  have hdk:xT Md:=by rw [hMd];exact Nh
  have back:∀ {M':Mem} {W:World} {C':Cx},Fr Cd Md (gO w b W) C' M' W→Fr C Fy.m w C' M' W:=fun fr=>by
   rw [hCd,hMd] at fr
   exact pG.back hbx rfl hb hbl fr
  rw [← hMd] at h0 hlk hmp hmpR
  have hbase:gO w b w=w:=by
   unfold gO;have e:w.heap.setIfInBounds b (w.heap.getD b (.cells #[] 0 (0,0)))=w.heap:=by
    apply Array.ext_getElem?;intro i
    by_cases e:b=i
    ·subst e
     have:w.heap[b]? = some w.heap[b]:=rU hbl;simp [hbl,Array.getD]
    ·simp [e]
   rw [e]
  have hseq:=bAd s hs m (fun c=>C.F c∨c=b) 2 b (by omega) w (.inl J3) (.inr rfl) Gk hm hB
  have hFl:∀ c,(C.F c∨c=b)→c<w.heap.size:=fun c hc=>hc.elim (hM.Fs c) (fun e=>e ▸ hbl)
  have fin:∀ (D:Nat) (W:World) (st:St),st.t=T→oP Md st.m→nmM st.m=true→xT st.m→w.heap.size≤D→pG Tp Cd Md w b st.m W→W.heap[D]? = some (.deferred (some []))→Sim Tp C0 M0 w0 st { a with defers:={ target := .collected D,args := #[] }::a.defers } W:=by
   intro D W st hT Nj Re Nk Ij hI hDm;obtain ⟨C1,h1,h2⟩:=hI;obtain ⟨F',Ej,frd,_,hSo⟩:=cDc Nj Re (by rw [cD];exact hA.Fs) h1 h2
   have Nl:=back frd;rw [cD] at hSo
   refine ⟨_,by rw [hT];exact hSl.le (hM.le Nl),Ej,hF.trans Nl,?_⟩
   obtain ⟨⟨l,e1,e2,e3⟩,hR⟩:=hD.fr hM (fun i u1 u2 u3 L h=>by have:=Nk _ _ h;cases this) Nl
   obtain ⟨⟨l',B7,_,Rf⟩,_⟩:=hD;have hll:l=l':=by
    have:=e1.symm.trans B7;exact (List.map_inj_right (fun x y h=>by simpa [mark] using h)).1 this
   refine ⟨⟨D::l,by rw [e1];rfl,List.nodup_cons.2 ⟨fun hin => ?_,e2⟩,fun D' Rh => ?_⟩,hR⟩
   ·rw [hll] at hin
    have:=(mF.1 (Rf D hin).1).1;omega
   ·rcases jU.1 Rh with rfl | hin
    ·refine ⟨hDm,iE hF.size Ij,fun hf => ?_⟩
     rcases hSo _ hf with h | h
     ·omega
     ·exact rO hDm rfl h
    ·exact e3 D' hin
  refine tH (F:=Fen none) (n:=3) rfl (by omega) (gf:=175) hu trivial (fun _ _=>rfl) hseq (fun h k=>h.trans k)
   (fun W l o o' hl h1 h2 h3=>⟨by simp,fun c hc=>(grownBy_putObj' W l o').block c (uQ (hFl c hc) (iE hl (Nat.le_of_lt (mF.1 h1).1))) (fun e=>by cases e;have:=hFl _ hc;omega)⟩)
   (Below.refl _ _) (fun _=>rfl)
   (fun pre W=>∃ acc,itB f a0 pre = .ok acc∧pG Tp Cd Md w b (S acc).m W)
   (fun c pre W=>c = .ret∧∃ e,itB f a0 pre = .error e∧pG Tp Cd Md w b (R e).m W)
   (fun pre X Y row hs hg hr=>by
    obtain ⟨acc,h1,h2⟩:=hs;exact ⟨acc,h1,h2.own (hmp _) (hq _) hA hg hr⟩) hbl
   (fun pre A v hs=>by
    obtain ⟨acc,h1,h2⟩:=hs;exact ⟨acc,h1,h2.set hA v⟩)
   (fun c pre X Y row hs hg hr=>by
    obtain ⟨h0,e,h1,h2⟩:=hs;exact ⟨h0,e,h1,h2.own (hmpR _) (hqR _) hA hg hr⟩)
   ⟨a0,rfl,?start⟩
   (fun pre x V a' W=>a'=actOf a x∧(∃ acc,itB f a0 pre = .ok acc∧pG Tp Cd Md w b (S acc).m W)∧KpG (fun c=>C.F c∨c=b) V W∧w.heap.size≤W.heap.size)
   (fun pre x V a' s X Y row hs hg hr=>by
    obtain ⟨e1,⟨acc,h1,h2⟩,e3,e4⟩:=hs;refine ⟨e1,⟨acc,h1,h2.own (hmp _) (hq _) hA hg hr⟩,⟨iE e3.size hg.size,fun c hc => ?_⟩,iE e4 hg.size⟩
    refine (hg.block c (uQ (hFl c hc) e4) (fun e => ?_)).trans (e3.same c hc)
    have:=(hr c e.symm).1;have:=hFl c hc;omega)
   ?assign ?body ?done ?stop
  case start =>
   obtain ⟨t',h0⟩:=h0;obtain ⟨C1,_,h1,h2,_⟩:=mT (C0:=Cd.with []) (M0:=Md) (w0:=gO w b w) hlk h0 (show Sim Tp (Cd.with []) Md (gO w b w) ⟨T,Md⟩ { a with defers:=[] } w from
    ⟨Cd,hSl.le (hM.le hFd),hMM,by rw [hbase];exact (Fr.refl _ _ _).based [],.nil rfl hdk⟩)
   exact ⟨C1,h1,h2.unbased⟩
  case assign =>
   intro l pre x V W K hV hI hK;subst hV;obtain ⟨acc,h1,h2⟩:=hI;have hsz:w.heap.size≤V.heap.size:=by
    obtain ⟨_,_,f2⟩:=h2;have:=f2.size;rw [cD] at this;exact this
   exact Q8 a x l K _ (hK _ _ (KeepsFrom.refl _ _) ⟨rfl,⟨acc,h1,h2⟩,KpG.refl _ _,hsz⟩)
  case body =>
   rintro l pre x a' V W hl _ ⟨rfl,⟨acc,hacc,C',Ej,Il⟩,hKV,hsz⟩ hN;have Ri:=pG.nF hA Il;have Kw:=pG.nL hA Il;have hSW:cQ C' (S acc).m W T a.tmps:=hSl.le (hM.le (back Il));have Rj:=hA2 a x _ _ _ hSW;have bd:=hbody pre x acc hN hacc;have hsim:Sim Tp (C'.with []) (S acc).m W ⟨s1 T x,(S acc).m⟩ (actOf a x) W:=⟨C',Rj,Ej,(Fr.refl _ _ _).based [],by rw [Q9];exact .nil rfl (hpk acc)⟩
   have keepO:∀ {M2:Mem} {W2:World} {C2:Cx},Fr C' (S acc).m W C2 M2 W2→KeepsFrom w.heap.size W W2∧KpG (fun c=>C.F c∨c=b) V W2:=fun f3=>by
    refine ⟨⟨f3.size,fun c o hc hb ho=>(f3.keep c (mF.1 hb).1 (fun id x hx hlv he => ?_)).trans hb⟩,
     hKV.trans ⟨f3.size,fun c hc=>f3.keep c (uQ (hFl c hc) hsz) (fun id o ho hlv he => ?_)⟩⟩
    ·cases x with
     | row ty n cs =>
      rcases Ej.row _ _ _ _ hx with ⟨h1,_⟩ | ⟨b',arr,i,h1,h2,_⟩
      ·rw [he] at h1;cases h1
      ·rw [he] at h1;cases h1;exact rO hb ho (nQ h2)
     | box ty cs =>
      obtain ⟨b',arr,h1,h2,_⟩:=Ej.box _ _ _ hx;rw [he] at h1;cases h1;exact rO hb ho (nQ h2)
     | mp es cl =>
      have:=aSs (hmp acc) hA.ls Il hx he;omega
     | pk u1 u2 u3 L=>exact absurd (hpk acc _ _ hx) (by simp [AO.isPk])
     | dead=>cases hlv
    ·rcases hc with hc | rfl
     ·exact Ej.nF _ _ _ ho hlv he ((back Il).F1 _ hc)
     ·exact Kw _ _ ho hlv he
   have baseO:∀ {M2:Mem} {W2:World} {C2:Cx},Fr C' (S acc).m W C2 M2 W2→Fr Cd Md (gO w b W2) C2 M2 W2:=fun {M2 W2 C2} f3=>by
    have eb:(gO w b W)=(gO w b W2):=by
     have e:W2.heap[b]? = W.heap[b]? := f3.keep b (uQ hbl hsz) (fun id o ho hlv he=>Kw _ _ ho hlv he)
     unfold gO;rw [Bu,Bu,e]
    rw [← eb];exact Il.trans f3
   have hit:=aKw f pre a0 x;rw [hacc] at hit
   cases hfx:f acc x with
   | ok a2 =>
    have Jb:itB f a0 (pre++[x]) = .ok a2:=by rw [hit];exact hfx
    obtain ⟨E,g1,hc,hpE,t',Nm⟩:=bd.1 a2 hfx;refine wpIn_mono (hc (C'.with []) (S acc).m W _ W (hlen _) hsim (some l) (.inr hnrf) 1) ?_
    rintro e a3 W2 ⟨rfl,C2,Jc,Ga,Ev,_⟩;obtain ⟨k1,k2⟩:=keepO Ev.unbased;obtain ⟨C4,_,Nn,Np,_⟩:=mT hlk Nm (show Sim Tp (Cd.with []) Md (gO w b W2) E { a3 with defers:=[] } W2 from ⟨C2,Jc,Ga,(baseO Ev.unbased).based [],.nil rfl (gT hpE)⟩)
    exact ⟨k1,k2,a2,Jb,C4,Nn,Np.unbased⟩
   | error e2 =>
    have Jb:itB f a0 (pre++[x]) = .error e2:=by rw [hit];exact hfx
    obtain ⟨E,g1,hc,hpE,t',Nm⟩:=bd.2 e2 hfx;refine wpIn_mono (hc (C'.with []) (S acc).m W _ W (hlen _) hsim (some l) (.inr hnrf) 1) ?_
    rintro e a3 W2 ⟨rfl,C2,Jc,Ga,Ev,_⟩;obtain ⟨k1,k2⟩:=keepO Ev.unbased;obtain ⟨C4,_,Nn,Np,_⟩:=mT hlk Nm (show Sim Tp (Cd.with []) Md (gO w b W2) E { a3 with defers:=[] } W2 from ⟨C2,Jc,Ga,(baseO Ev.unbased).based [],.nil rfl (gT hpE)⟩)
    exact ⟨k1,rfl,e2,Jb,C4,Nn,Np.unbased⟩
  case done =>
   intro D xs W Ij hSx hI hDm;subst hSx;obtain ⟨acc,hacc,hI⟩:=hI;exact ⟨.normal,S acc,Ra acc hacc,rfl,fin D W _ (hST _) (hmp _) (hq _) (hpk _) Ij hI hDm⟩
  case stop =>
   rintro D c pre W Ij hSp ⟨rfl,e,hacc,hI⟩ hDm;refine wpIn_ret ?_;obtain ⟨r,hr⟩:=hSp;exact ⟨.ret,R e,Rb e (by rw [← hr];exact aEn f _ _ _ hacc),rfl,fin D W _ (hRT _) (hmpR _) (hqR _) (hpkR _) Ij hI hDm⟩
 refine ⟨fun a2 hok => ?_,fun e2 her => ?_⟩
 ·intro C0 M0 w0 a w hk B6 ro hro n
  refine wpIn_mono (main (fun e Aj=>e = .normal∧Aj=S a2) (fun a h=>by rw [hok] at h;cases h;exact ⟨rfl,rfl⟩) (fun e h=>by rw [hok] at h;cases h) C0 M0 w0 a w hk B6 ro hro n) ?_
  rintro e' a' w' ⟨e,Aj,⟨rfl,rfl⟩,h1,h2⟩;exact ⟨h1,h2⟩
 ·intro C0 M0 w0 a w hk B6 ro hro n
  refine wpIn_mono (main (fun e Aj=>e = .ret∧Aj=R e2) (fun a h=>by rw [her] at h;cases h) (fun e h=>by rw [her] at h;cases h;exact ⟨rfl,rfl⟩) C0 M0 w0 a w hk B6 ro hro n) ?_
  rintro e' a' w' ⟨e,Aj,⟨rfl,rfl⟩,h1,h2⟩;exact ⟨h1,h2⟩
end KV
end Go.Proofs
end
namespace Go.Proofs
namespace KV
open Tryz
section
theorem bAa{s:List UInt8}(h:(Lib.cut s [10]).2.2=true):(Lib.cut s [10]).1.length+1+(Lib.cut s [10]).2.1.length=s.length:=by
 unfold Lib.cut at h ⊢
 split
 ·rename_i h0
  have h1:=Lib.index_room s [10] h0;simp at h1
  dsimp only;rw [pF,xY,List.length_singleton];omega
 ·rename_i h0
  rw [if_neg h0] at h
  cases h
theorem bOq(s:List UInt8):(Lib.cut s [10]).1.length≤s.length:=by
 unfold Lib.cut
 split
 ·rw [pF];omega
 ·exact dD _
def vA:List (List UInt8 × Bool)→Nat
 | []=>0
 | x::r=>x.1.length+1+vA r
theorem aEl:∀ (l:List (List UInt8 × Bool)) (x:List UInt8 × Bool),vA (l++[x])=vA l+(x.1.length+1)
 | [],x=>by simp [vA]
 | y::l,x=>by simp only [List.cons_append,vA,aEl l x];omega
theorem aEm:∀ (pre:List (List UInt8 × Bool)) (x:List UInt8 × Bool) (s:List UInt8),pre++[x] <+: cF s→(∀ y∈pre,y.2=true)→vA pre+x.1.length≤s.length
 | [],x,s,h,_=>by
  by_cases hs:s=[]
  ·subst hs;simp [oR] at h
  ·rw [eH hs] at h
   have:=(List.cons_prefix_cons.1 h).1;subst this;have:=bOq s;simp only [vA];omega
 | y::pre,x,s,h,hy=>by
  by_cases hs:s=[]
  ·subst hs;simp [oR] at h
  ·rw [eH hs] at h
   obtain ⟨h1,h2⟩:=List.cons_prefix_cons.1 (show y::(pre++[x]) <+: _::_ from h)
   subst h1;have h3:=bAa (s:=s) (hy ((Lib.cut s [10]).1,(Lib.cut s [10]).2.2) (jT ..));have h4:=aEm pre x _ h2 (fun z hz=>hy z (by simp [hz]))
   simp only [vA];omega
theorem aSr:∀ l:List (List UInt8 × Bool),l.length≤vA l
 | []=>dD _
 | x::l=>by have:=aSr l;simp only [vA,Cb];omega
end
section
def spB:List UInt8→List (List UInt8)
 | []=>[[]]
 | c::r=>if c=32 then []::spB r else match spB r with
  | []=>[[c]]
  | f::fs=>(c::f)::fs
theorem bIj(c:UInt8)(s:List UInt8)(x:UInt8):Lib.index (c::s) [x]=if c=x then 0 else if Lib.index s [x] == -1 then -1 else Lib.index s [x]+1:=by
 rw [Lib.index]
 by_cases h:c=x
 ·subst h
  simp
 ·have:([x].isPrefixOf (c::s))=false:=by
   simp only [List.isPrefixOf];simp [Ne.symm h]
  rw [this,if_neg h];rfl
theorem aEk:∀ (s:List UInt8),Lib.splitK [32] 0 (Lib.count s [32]) s=spB s
 | []=>by
  have:Lib.count [] [32]=0:=by decide
  rw [this,Lib.splitK,spB]
 | c::s=>by
  have ih:=aEk s;have hi:=bIj c s 32
  by_cases h:c=32
  ·rw [if_pos h] at hi
   rw [Lib.count_hit (i:=0) (by simp) hi,Nat.add_comm 1,Lib.splitK,hi,spB,if_pos h]
   simpa using ih
  ·rw [if_neg h] at hi
   rw [spB,if_neg h]
   by_cases hm:Lib.index s [32] = -1
   ·rw [if_pos (by simp [hm])] at hi
    rw [Lib.count_miss hm,Lib.splitK] at ih
    rw [Lib.count_miss hi,Lib.splitK,← ih]
   ·have hge:=Lib.index_ge s [32]
    obtain ⟨i,e⟩:∃ i:Nat,Lib.index s [32]=i:=⟨(Lib.index s [32]).toNat,by omega⟩
    rw [if_neg (by simpa using hm),e] at hi
    rw [Lib.count_hit (i:=i) (by simp) e,Nat.add_comm 1,Lib.splitK,e] at ih
    rw [Lib.count_hit (i:=i+1) (by simp) (hi.trans (by omega)),Nat.add_comm 1 (Lib.count (List.drop (i+1+[32].length) (c::s)) [32]),Lib.splitK,hi,← ih]
    have n1:¬ (((i:Nat):Int) == -1)=true:=by simp
    have n2:¬ (((i:Nat):Int)+1 == -1)=true:=by simp;omega
    rw [if_neg n1,if_neg n2];have e1:(((i:Nat):Int)+1).toNat=i+1:=by omega
    rw [e1];simp only [List.length_singleton,Nat.add_zero,List.take_succ_cons,List.drop_succ_cons,Int.toNat_natCast]
theorem mC(s:List UInt8):aO s [32]=spB s:=aEk s
theorem aHf:∀ (p:List UInt8),(∀ b∈p,b≠32)→spB p=[p]∧∀ t,spB (p++32::t)=p::spB t
 | [],_=>⟨rfl,fun t=>by rw [List.nil_append,spB,if_pos rfl]⟩
 | c::p,h=>by
  obtain ⟨h1,h2⟩:=aHf p fun b hb=>h b (Cn _ hb)
  have hc:=h c (jT ..);refine ⟨by rw [spB,if_neg hc,h1],fun t => ?_⟩
  rw [List.cons_append,spB,if_neg hc,h2]
end
end KV
end Go.Proofs
section
namespace Go.Proofs
open Go.RowKit
namespace KV
open Tryz
theorem aBe{X β ε:Type}{f:β→X→Except ε β}{a b:β}{x:X}(l:List X)(h:f a x = .ok b):itB f a (x::l)=itB f b l:=by
 rw [itB,h]
theorem aPn{X β ε:Type}{f:β→X→Except ε β}{a:β}{e:ε}{x:X}(l:List X)(h:f a x = .error e):itB f a (x::l) = .error e:=by
 rw [itB,h]
end KV
end Go.Proofs
end
