/- Parts of the proof of JSheetDamaged: laws of walks, contracts of functions, plain models. No condition. -/
import Derived.Lib.SplitLaws
import Derived.RangeFuncLeaves
import Derived.OwnWalkIn
import Derived.TacticsInMore
import Derived.RangeFuncNested
import Derived.Shelf.Abstract
import Derived.LoopNIn
import Derived.LoopIn
import Derived.Lib.CountLaws
import Derived.Lib.IndexBytes
import Derived.Test.YtfekapdegmfgaaaGreatDoorPJSheetDamagedD
set_option linter.unusedVariables false
set_option linter.unusedSimpArgs false
set_option linter.unnecessarySimpa false
set_option maxRecDepth 100000
namespace Go.Proofs
namespace KV
open Tryz
section
variable {r0:Bool}{a m hi lo r1:Int}{i i' Aq base:Nat}

noncomputable abbrev oM:Code:=sub (cd Tryz.f281) [1,0,1,0,0]
theorem bUm{x:UInt8}(h0:(x.toNat:Int)=120):FV Tp 231 [(.p (.v (.int .u8 (x.toNat:Int))))] base (pB true) []:=FV.fi func231 [bT,bT,bT] (A1 (dF h0) gn)
theorem bUn{x:UInt8}(h0:(x.toNat:Int)≠120)(Al:r0=((x.toNat:Int) == 111)):FV Tp 231 [(.p (.v (.int .u8 (x.toNat:Int))))] base (pB r0) []:=by
 subst Al;exact FV.fi func231 [bF,bF,bF] (A1 (bL h0) gn)
theorem bUo{x:UInt8}(h0:(97:Int)≤(x.toNat:Int))(Al:r0=(decide ((x.toNat:Int)≤122))):FV Tp 232 [(.p (.v (.int .u8 (x.toNat:Int))))] base (pB r0) []:=by
 subst Al;exact FV.fi func232 [bT,bT,bT] (A1 (mD h0) gn)
theorem bUp{x:UInt8}(h0:(x.toNat:Int)<97):FV Tp 232 [(.p (.v (.int .u8 (x.toNat:Int))))] base (pB false) []:=FV.fi func232 [bF,bF,bF] (A1 (eE h0) gn)
def isr(x:UInt8):Bool:=decide ((x.toNat:Int)=120) || ((x.toNat:Int) == 111)
theorem bUq(x:UInt8){base:Nat}:FV Tp 231 [.p (.v (.int .u8 (x.toNat:Int)))] base (pB (isr x)) []:=by
 by_cases h:(x.toNat:Int)=120
 ·have e:isr x=true:=by simp only [isr,h,decide_true,Bool.true_or]
  rw [e];exact bUm h
 ·exact bUn h (by simp [isr,h])
def isl(x:UInt8):Bool:=decide ((97:Int)≤(x.toNat:Int)) && decide ((x.toNat:Int)≤122)
theorem bUr(x:UInt8){base:Nat}:FV Tp 232 [.p (.v (.int .u8 (x.toNat:Int)))] base (pB (isl x)) []:=by
 by_cases h:(97:Int)≤(x.toNat:Int)
 ·exact bUo h (by simp [isl,h])
 ·have e:isl x=false:=by simp only [isl,h,decide_false,Bool.false_and]
  rw [e];exact bUp (by omega)
theorem bLq{x:UInt8}(Al:r0=(!(isr x))):FMM Tp 239 [(.p (.v (.int .u8 (x.toNat:Int)))),(.ptr 0 0)] [some (.box 289 [(.fn 231 [] [])])] (pB r0) [some (.box 289 [(.fn 231 [] [])])]:=by
 subst Al;exact FMM.fi 1 gE func239 [.c (pB (isr x)) []] (gc (fk 1 (bUq x) rfl) gn)
theorem aQx(x:UInt8):FMM Tp 239 [.p (.v (.int .u8 (x.toNat:Int))),.ptr 0 0] [some (.box 289 [(.fn 231 [] [])])] (pB (!(isr x))) [some (.box 289 [(.fn 231 [] [])])]:=bLq rfl
def fM(l:List UInt8)(i:Nat):St:=⟨fr 19 [(0,(.p (.sl l.length (l.map dE)))),(1,(.fn 239 [] [(.ptr 0 0)])),(7,(pI (l.length:Int))),(8,(pI (i:Int)))],[some (.box 289 [(.fn 231 [] [])])]⟩
theorem bLr{l:List UInt8}(hl0:aF Tp 1 oM (fM l 0) (.exit 0) (fM l Aq)):FMM Tp 281 [(.p (.sl l.length (l.map dE))),(.fn 239 [] [(.ptr 0 0)])] [some (.box 289 [(.fn 231 [] [])])] (pI (-1)) [some (.box 289 [(.fn 231 [] [])])]:=FMM.fi 1 gE func281 [hl0.k 6 (gZ ce)] (gc hl0.code gn)
theorem bLs{l:List UInt8}(hl0:aF Tp 1 oM (fM l 0) .ret (cK (fM l Aq) [(4,(pI (Aq:Int)))])):FMM Tp 281 [(.p (.sl l.length (l.map dE))),(.fn 239 [] [(.ptr 0 0)])] [some (.box 289 [(.fn 231 [] [])])] (pI (Aq:Int)) [some (.box 289 [(.fn 231 [] [])])]:=FMM.fi 1 gE func281 [hl0.k 6 (gZ ce)] (gc hl0.code gn)
section
variable{l:List UInt8}{Ab:UInt8}(h0:(i:Int)<(l.length:Int))(h1:l[i]? = some Ab)
include h0 h1
theorem aOb(h2:(isr Ab)=false):aA Tp 1 oM (fM l i) .ret (cK (fM l i) [(4,(pI (i:Int)))]):=have k1:=mq [0] 1 (aQx Ab);aA.fi (gZ bq) [bT,.x (.v (.int .u8 (Ab.toNat:Int))),k1.o,bT] (gc (cZ h2) (gc k1 (gc (atm dE h1) (gc (ixn dE h1) (g0 h0)))))
theorem aOc(h2:(isr Ab)=true)(h3:co i)(Aj:i'=(i+1)):aA Tp 1 oM (fM l i) .normal (fM l i'):=by
 subst Aj;have k1:=mq [0] 1 (aQx Ab);exact aA.fi (gZ ce) [bT,.x (.v (.int .u8 (Ab.toNat:Int))),k1.o,bF] (gc h3 (gc (aX h2) (gc k1 (gc (atm dE h1) (gc (ixn dE h1) (g0 h0))))))
end
theorem aOd{l:List UInt8}(h0:(l.length:Int)≤(i:Int)):aA Tp 1 oM (fM l i) (.exit 0) (fM l i):=aA.fi (gZ ce) [bF] (gc (bC h0) gn)
theorem bLt(l:List UInt8)(hl:l.length≤100000):FMM Tp 281 [.p (.sl l.length (l.map dE)),(.fn 239 [] [(.ptr 0 0)])] [some (.box 289 [(.fn 231 [] [])])] (pI (mT (fun x => !(isr x)) l)) [some (.box 289 [(.fn 231 [] [])])]:=by
 rcases aF.find (P:=Tp) (k:=1) (b:=oM) (fun i=>fM l i) (fun i _=>cK (fM l i) [(4,.p (aB (i:Int)))]) (fM l l.length) .ret (.exit 0) (by simp) (by simp) (fun x => !(isr x)) l
  (fun i x hx hp=>aOc (by have:=bI hx;omega) hx (by simpa using hp) (aT (by have:=bI hx;omega)) rfl)
  (fun i x hx hp=>aOb (by have:=bI hx;omega) hx (by simpa using hp))
  (aOd (l:=l) (i:=l.length) (by omega)) with ⟨i,x,h1,h2,h3,h4⟩ | ⟨h1,h2,h3⟩
 ·rw [iU h2];exact bLs h4
 ·rw [iV h1];exact bLr h3
theorem bLu{l:List UInt8}(h0:l.length≤100000)(Al:r0=(decide ((mT (fun x => !(isr x)) l) ≥ 0))):FMM Tp 238 [(.p (.sl l.length (l.map dE))),(.fn 239 [] [(.ptr 0 0)])] [some (.box 289 [(.fn 231 [] [])])] (pB r0) [some (.box 289 [(.fn 231 [] [])])]:=by
 subst Al;have k1:=mq [0] 1 (bLt l h0);exact FMM.fi 1 gE func238 [k1.o] (gc k1 gn)
theorem bLv(l:List UInt8)(hl:l.length≤100000):FMM Tp 238 [.p (.sl l.length (l.map dE)),(.fn 239 [] [(.ptr 0 0)])] [some (.box 289 [(.fn 231 [] [])])] (pB (l.any (fun x => !(isr x)))) [some (.box 289 [(.fn 231 [] [])])]:=bLu hl (kT _ _).symm
theorem bLw{l:List UInt8}(h0:l.length≤100000)(Al:r0=(!(l.any (fun x => !(isr x))))):FV Tp 196 [(.p (.sl l.length (l.map dE))),(.fn 231 [] [])] base (pB r0) []:=by
 subst Al;have k1:=mq [0] 1 (bLv l h0);exact FV.fi func196 [k1.o] (gc k1 gn)
theorem bLx(l:List UInt8)(hl:l.length≤100000){base:Nat}:FV Tp 196 [.p (.sl l.length (l.map dE)),(.fn 231 [] [])] base (pB (l.all isr)) []:=bLw hl (by rw [List.all_eq_not_any_not])
theorem bLy{x:UInt8}(Al:r0=(!(isl x))):FMM Tp 239 [(.p (.v (.int .u8 (x.toNat:Int)))),(.ptr 0 0)] [some (.box 289 [(.fn 232 [] [])])] (pB r0) [some (.box 289 [(.fn 232 [] [])])]:=by
 subst Al;exact FMM.fi 1 gE func239 [.c (pB (isl x)) []] (gc (fk 1 (bUr x) rfl) gn)
theorem aQy(x:UInt8):FMM Tp 239 [.p (.v (.int .u8 (x.toNat:Int))),.ptr 0 0] [some (.box 289 [(.fn 232 [] [])])] (pB (!(isl x))) [some (.box 289 [(.fn 232 [] [])])]:=bLy rfl
def fN(l:List UInt8)(i:Nat):St:=⟨fr 19 [(0,(.p (.sl l.length (l.map dE)))),(1,(.fn 239 [] [(.ptr 0 0)])),(7,(pI (l.length:Int))),(8,(pI (i:Int)))],[some (.box 289 [(.fn 232 [] [])])]⟩
theorem bLz{l:List UInt8}(hl0:aF Tp 1 oM (fN l 0) (.exit 0) (fN l Aq)):FMM Tp 281 [(.p (.sl l.length (l.map dE))),(.fn 239 [] [(.ptr 0 0)])] [some (.box 289 [(.fn 232 [] [])])] (pI (-1)) [some (.box 289 [(.fn 232 [] [])])]:=FMM.fi 1 gE func281 [hl0.k 6 (gZ ce)] (gc hl0.code gn)
theorem bMa{l:List UInt8}(hl0:aF Tp 1 oM (fN l 0) .ret (cK (fN l Aq) [(4,(pI (Aq:Int)))])):FMM Tp 281 [(.p (.sl l.length (l.map dE))),(.fn 239 [] [(.ptr 0 0)])] [some (.box 289 [(.fn 232 [] [])])] (pI (Aq:Int)) [some (.box 289 [(.fn 232 [] [])])]:=FMM.fi 1 gE func281 [hl0.k 6 (gZ ce)] (gc hl0.code gn)
section
variable{l:List UInt8}{Ab:UInt8}(h0:(i:Int)<(l.length:Int))(h1:l[i]? = some Ab)
include h0 h1
theorem aOe(h2:(isl Ab)=false):aA Tp 1 oM (fN l i) .ret (cK (fN l i) [(4,(pI (i:Int)))]):=have k1:=mq [0] 1 (aQy Ab);aA.fi (gZ bq) [bT,.x (.v (.int .u8 (Ab.toNat:Int))),k1.o,bT] (gc (cZ h2) (gc k1 (gc (atm dE h1) (gc (ixn dE h1) (g0 h0)))))
theorem aOf(h2:(isl Ab)=true)(h3:co i)(Aj:i'=(i+1)):aA Tp 1 oM (fN l i) .normal (fN l i'):=by
 subst Aj;have k1:=mq [0] 1 (aQy Ab);exact aA.fi (gZ ce) [bT,.x (.v (.int .u8 (Ab.toNat:Int))),k1.o,bF] (gc h3 (gc (aX h2) (gc k1 (gc (atm dE h1) (gc (ixn dE h1) (g0 h0))))))
end
theorem aOg{l:List UInt8}(h0:(l.length:Int)≤(i:Int)):aA Tp 1 oM (fN l i) (.exit 0) (fN l i):=aA.fi (gZ ce) [bF] (gc (bC h0) gn)
theorem bMb(l:List UInt8)(hl:l.length≤100000):FMM Tp 281 [.p (.sl l.length (l.map dE)),(.fn 239 [] [(.ptr 0 0)])] [some (.box 289 [(.fn 232 [] [])])] (pI (mT (fun x => !(isl x)) l)) [some (.box 289 [(.fn 232 [] [])])]:=by
 rcases aF.find (P:=Tp) (k:=1) (b:=oM) (fun i=>fN l i) (fun i _=>cK (fN l i) [(4,.p (aB (i:Int)))]) (fN l l.length) .ret (.exit 0) (by simp) (by simp) (fun x => !(isl x)) l
  (fun i x hx hp=>aOf (by have:=bI hx;omega) hx (by simpa using hp) (aT (by have:=bI hx;omega)) rfl)
  (fun i x hx hp=>aOe (by have:=bI hx;omega) hx (by simpa using hp))
  (aOg (l:=l) (i:=l.length) (by omega)) with ⟨i,x,h1,h2,h3,h4⟩ | ⟨h1,h2,h3⟩
 ·rw [iU h2];exact bMa h4
 ·rw [iV h1];exact bLz h3
theorem bMc{l:List UInt8}(h0:l.length≤100000)(Al:r0=(decide ((mT (fun x => !(isl x)) l) ≥ 0))):FMM Tp 238 [(.p (.sl l.length (l.map dE))),(.fn 239 [] [(.ptr 0 0)])] [some (.box 289 [(.fn 232 [] [])])] (pB r0) [some (.box 289 [(.fn 232 [] [])])]:=by
 subst Al;have k1:=mq [0] 1 (bMb l h0);exact FMM.fi 1 gE func238 [k1.o] (gc k1 gn)
theorem bMd(l:List UInt8)(hl:l.length≤100000):FMM Tp 238 [.p (.sl l.length (l.map dE)),(.fn 239 [] [(.ptr 0 0)])] [some (.box 289 [(.fn 232 [] [])])] (pB (l.any (fun x => !(isl x)))) [some (.box 289 [(.fn 232 [] [])])]:=bMc hl (kT _ _).symm
theorem bMe{l:List UInt8}(h0:l.length≤100000)(Al:r0=(!(l.any (fun x => !(isl x))))):FV Tp 196 [(.p (.sl l.length (l.map dE))),(.fn 232 [] [])] base (pB r0) []:=by
 subst Al;have k1:=mq [0] 1 (bMd l h0);exact FV.fi func196 [k1.o] (gc k1 gn)
theorem bMf(l:List UInt8)(hl:l.length≤100000){base:Nat}:FV Tp 196 [.p (.sl l.length (l.map dE)),(.fn 232 [] [])] base (pB (l.all isl)) []:=bMe hl (by rw [List.all_eq_not_any_not])
theorem bUs{s:List UInt8}(h0:(within (s.length:Int) lo hi)=true)(h1:s.length≤1000000000)(h2:s.length≤100000)(Al:r0=(s.all isr)):FV Tp 230 [(.p (aD s)),(pI lo),(pI hi),(.fn 231 [] [])] base (pB r0) []:=by
 subst Al;have k1:=fk 0 (lV (s.length:Int) lo hi) rfl;exact FV.fi func230 [k1.o,bT,bT,bT,bT,.c (pB (s.all isr)) [],bT] (gc h0 (gc (fk 0 (bLx s h2) rfl) (A9 h0 (gc h1 (A9 h0 (gc k1 gn))))))
theorem bUt{s:List UInt8}(h0:(within (s.length:Int) lo hi)=false):FV Tp 230 [(.p (aD s)),(pI lo),(pI hi),(.fn 231 [] [])] base (pB false) []:=have k1:=fk 0 (lV (s.length:Int) lo hi) rfl;FV.fi func230 ([k1.o]++rF 5) (Cy h0 (gc k1 gn))
theorem bUu{s:List UInt8}(h0:(within (s.length:Int) lo hi)=true)(h1:s.length≤1000000000)(h2:s.length≤100000)(Al:r0=(s.all isl)):FV Tp 230 [(.p (aD s)),(pI lo),(pI hi),(.fn 232 [] [])] base (pB r0) []:=by
 subst Al;have k1:=fk 0 (lV (s.length:Int) lo hi) rfl;exact FV.fi func230 [k1.o,bT,bT,bT,bT,.c (pB (s.all isl)) [],bT] (gc h0 (gc (fk 0 (bMf s h2) rfl) (A9 h0 (gc h1 (A9 h0 (gc k1 gn))))))
theorem bUv{s:List UInt8}(h0:(within (s.length:Int) lo hi)=false):FV Tp 230 [(.p (aD s)),(pI lo),(pI hi),(.fn 232 [] [])] base (pB false) []:=have k1:=fk 0 (lV (s.length:Int) lo hi) rfl;FV.fi func230 ([k1.o]++rF 5) (Cy h0 (gc k1 gn))
def mY(s:List UInt8):Bool:=within (s.length:Int) 5 8 && s.all isr
def mZ(s:List UInt8):Bool:=within (s.length:Int) 1 12 && s.all isl
theorem bUw(s:List UInt8)(lo hi:Int)(h:hi≤100000){base:Nat}:FV Tp 230 [.p (aD s),.p (aB lo),.p (aB hi),.fn 231 [] []] base (pB (within (s.length:Int) lo hi && s.all isr)) []:=by
 by_cases q:within (s.length:Int) lo hi=true
 ·have:=cM.1 q
  exact bUs q (by omega) (by omega) (by rw [q,aUp])
 ·have e:within (s.length:Int) lo hi=false:=by simpa using q
  rw [e,Bool.false_and];exact bUt e
theorem bUx(s:List UInt8)(lo hi:Int)(h:hi≤100000){base:Nat}:FV Tp 230 [.p (aD s),.p (aB lo),.p (aB hi),.fn 232 [] []] base (pB (within (s.length:Int) lo hi && s.all isl)) []:=by
 by_cases q:within (s.length:Int) lo hi=true
 ·have:=cM.1 q
  exact bUu q (by omega) (by omega) (by rw [q,aUp])
 ·have e:within (s.length:Int) lo hi=false:=by simpa using q
  rw [e,Bool.false_and];exact bUv e
theorem bUy{s:List UInt8}(h0:(8:Int)≤100000)(Al:r0=(within (s.length:Int) 5 8 && s.all isr)):FV Tp 191 [(.p (aD s))] base (pB r0) []:=by
 subst Al;have k1:=fk 0 (bUw s 5 8 h0) rfl;exact FV.fi func191 [k1.o] (gc k1 gn)
theorem bUz{s:List UInt8}(h0:(12:Int)≤100000)(Al:r0=(within (s.length:Int) 1 12 && s.all isl)):FV Tp 192 [(.p (aD s))] base (pB r0) []:=by
 subst Al;have k1:=fk 0 (bUx s 1 12 h0) rfl;exact FV.fi func192 [k1.o] (gc k1 gn)
theorem aFx(s:List UInt8){base:Nat}:FV Tp 191 [.p (aD s)] base (pB (mY s)) []:=bUy (by omega) rfl
theorem aFy(s:List UInt8){base:Nat}:FV Tp 192 [.p (aD s)] base (pB (mZ s)) []:=bUz (by omega) rfl
theorem bVa{s:List UInt8}{r0:Int}(h0:0≤(999999:Int)∧(999999:Int)≤1000000000)(Al:r0=((bH s 999999).1))(Dc:r1=((bH s 999999).2)):FV Tp 188 [(.p (aD s))] base (.tup [(pI r0),(pI r1)]) []:=by
 subst Al Dc;have k1:=fk 0 (fY s 999999 h0) rfl;exact FV.fi func188 [k1.o] (gc k1 gn)
theorem bVb(s:List UInt8){base:Nat}:FV Tp 188 [.p (aD s)] base (.tup [.p (aB (bH s 999999).1),.p (aB (bH s 999999).2)]) []:=bVa (by omega) rfl rfl
theorem bVc{n:Int}:FV Tp 189 [(pI n)] base (.p (aD ((ptM n).1))) []:=have k1:=fk 0 (cBa n) rfl;FV.fi func189 [k1.o] (gc k1 gn)
theorem bVd(n:Int){base:Nat}:FV Tp 189 [.p (aB n)] base (.p (aD (ptM n).1)) []:=bVc
theorem bVe{s:List UInt8}{r0:Int}(Al:r0=((bH s 999999).1))(Dc:r1=((bH s 999999).2)):FV Tp 224 [(.p (aD s)),(.rp [(PV.fn 188 [] [])] 0)] base (.tup [(.p (.agg [(aB r0),(aD ([]:List UInt8))])),(pI r1)]) []:=by
 subst Al Dc;have k1:=fk 1 (bVb s) rfl;exact FV.fi func224 [.x (PV.fn 188 [] []),k1.o] (gc k1 (gr (PV.fn 188 [] []) gn))
theorem bVf{s:List UInt8}{r0:Int}(h0:s.length≤90000)(Al:r0=((paM s).1))(Dc:r1=((paM s).2)):FV Tp 224 [(.p (aD s)),(.rp [(PV.fn 39 [] [])] 0)] base (.tup [(.p (.agg [(aB r0),(aD ([]:List UInt8))])),(pI r1)]) []:=by
 subst Al Dc;have k1:=fk 1 (bMg s h0) rfl;exact FV.fi func224 [.x (PV.fn 39 [] []),k1.o] (gc k1 (gr (PV.fn 39 [] []) gn))
theorem bVg{z:List UInt8}(h0:inR a):FV Tp 225 [(.p (.agg [(aB a),(aD z)])),(.rp [(PV.fn 120 [] [])] 0)] base (.p (aD (Lib.itoa a))) []:=have k1:=fk 1 (dD a h0) rfl;FV.fi func225 [.x (PV.fn 120 [] []),k1.o] (gc k1 (gr (PV.fn 120 [] []) gn))
theorem bVh{z:List UInt8}:FV Tp 225 [(.p (.agg [(aB a),(aD z)])),(.rp [(PV.fn 189 [] [])] 0)] base (.p (aD ((ptM a).1))) []:=have k1:=fk 1 (bVd a) rfl;FV.fi func225 [.x (PV.fn 189 [] []),k1.o] (gc k1 (gr (PV.fn 189 [] []) gn))
theorem bFu{z:List UInt8}(h0:(within a 0 m)=false):FV Tp 226 [(.p (.agg [(aB a),(aD z)])),(.rp [(aB m)] 0)] base (pI 3) []:=have k1:=fk 1 (lV a 0 m) rfl;FV.fi func226 [.x (aB m),k1.o,bT] (gc (cZ h0) (gc k1 (gr (aB m) gn)))
theorem bFv{z:List UInt8}(h0:(within a 0 m)=true)(h1:z≠([]:List UInt8)):FV Tp 226 [(.p (.agg [(aB a),(aD z)])),(.rp [(aB m)] 0)] base (pI 11) []:=have k1:=fk 1 (lV a 0 m) rfl;FV.fi func226 [.x (aB m),k1.o,bF,bT] (gc (cZ (decide_eq_false h1)) (gc (aX h0) (gc k1 (gr (aB m) gn))))
theorem bFw{z:List UInt8}(h0:(within a 0 m)=true)(h1:z=([]:List UInt8)):FV Tp 226 [(.p (.agg [(aB a),(aD z)])),(.rp [(aB m)] 0)] base (pI 0) []:=have k1:=fk 1 (lV a 0 m) rfl;FV.fi func226 [.x (aB m),k1.o,bF,bF] (gc (aX (decide_eq_true h1)) (gc (aX h0) (gc k1 (gr (aB m) gn))))
theorem bVi{s:List UInt8}(h0:(mY s)=false):FV Tp 227 [(.p (aD s)),(.rp [(PV.fn 191 [] [])] 0)] base (.tup [(.p (.agg [(aB 0),(aD ([]:List UInt8))])),(pI 11)]) []:=FV.fi func227 [.x (PV.fn 191 [] []),.c (pB (mY s)) [],bT] (gc (cZ h0) (gc (fk 1 (aFx s) rfl) (gr (PV.fn 191 [] []) gn)))
theorem bVj{s:List UInt8}(h0:(mY s)=true):FV Tp 227 [(.p (aD s)),(.rp [(PV.fn 191 [] [])] 0)] base (.tup [(.p (.agg [(aB 0),(aD s)])),(pI 0)]) []:=FV.fi func227 [.x (PV.fn 191 [] []),.c (pB (mY s)) [],bF] (gc (aX h0) (gc (fk 1 (aFx s) rfl) (gr (PV.fn 191 [] []) gn)))
theorem bVk{s:List UInt8}(h0:(mZ s)=false):FV Tp 227 [(.p (aD s)),(.rp [(PV.fn 192 [] [])] 0)] base (.tup [(.p (.agg [(aB 0),(aD ([]:List UInt8))])),(pI 11)]) []:=FV.fi func227 [.x (PV.fn 192 [] []),.c (pB (mZ s)) [],bT] (gc (cZ h0) (gc (fk 1 (aFy s) rfl) (gr (PV.fn 192 [] []) gn)))
theorem bVl{s:List UInt8}(h0:(mZ s)=true):FV Tp 227 [(.p (aD s)),(.rp [(PV.fn 192 [] [])] 0)] base (.tup [(.p (.agg [(aB 0),(aD s)])),(pI 0)]) []:=FV.fi func227 [.x (PV.fn 192 [] []),.c (pB (mZ s)) [],bF] (gc (aX h0) (gc (fk 1 (aFy s) rfl) (gr (PV.fn 192 [] []) gn)))
theorem bVm{z:List UInt8}:FV Tp 228 [(.p (.agg [(aB a),(aD z)]))] base (.p (aD z)) []:=FV.fi func228 [] gn
theorem bVn{z:List UInt8}(h0:a≠0):FV Tp 229 [(.p (.agg [(aB a),(aD z)])),(.rp [(PV.fn 191 [] [])] 0)] base (pI 11) []:=FV.fi func229 (rT 6) (Ht (fD h0) gn)
theorem bVo{z:List UInt8}(h0:a=0)(h1:(mY z)=false):FV Tp 229 [(.p (.agg [(aB a),(aD z)])),(.rp [(PV.fn 191 [] [])] 0)] base (pI 11) []:=FV.fi func229 [bF,.x (PV.fn 191 [] []),bF,bF,bF,.c (pB (mY z)) [],bF,bF,bT] (gc (cZ h1) (A9 (bV h0) (gc (fk 1 (aFx z) rfl) (A1 (bV h0) (gr (PV.fn 191 [] []) (gc (bV h0) gn))))))
theorem bVp{z:List UInt8}(h0:a=0)(h1:(mY z)=true):FV Tp 229 [(.p (.agg [(aB a),(aD z)])),(.rp [(PV.fn 191 [] [])] 0)] base (pI 0) []:=FV.fi func229 [bF,.x (PV.fn 191 [] []),bF,bF,bF,.c (pB (mY z)) [],bF,bF,bF] (gc (aX h1) (A9 (bV h0) (gc (fk 1 (aFx z) rfl) (A1 (bV h0) (gr (PV.fn 191 [] []) (gc (bV h0) gn))))))
theorem bVq{z:List UInt8}(h0:a≠0):FV Tp 229 [(.p (.agg [(aB a),(aD z)])),(.rp [(PV.fn 192 [] [])] 0)] base (pI 11) []:=FV.fi func229 (rT 6) (Ht (fD h0) gn)
theorem bVr{z:List UInt8}(h0:a=0)(h1:(mZ z)=false):FV Tp 229 [(.p (.agg [(aB a),(aD z)])),(.rp [(PV.fn 192 [] [])] 0)] base (pI 11) []:=FV.fi func229 [bF,.x (PV.fn 192 [] []),bF,bF,bF,.c (pB (mZ z)) [],bF,bF,bT] (gc (cZ h1) (A9 (bV h0) (gc (fk 1 (aFy z) rfl) (A1 (bV h0) (gr (PV.fn 192 [] []) (gc (bV h0) gn))))))
theorem bVs{z:List UInt8}(h0:a=0)(h1:(mZ z)=true):FV Tp 229 [(.p (.agg [(aB a),(aD z)])),(.rp [(PV.fn 192 [] [])] 0)] base (pI 0) []:=FV.fi func229 [bF,.x (PV.fn 192 [] []),bF,bF,bF,.c (pB (mZ z)) [],bF,bF,bF] (gc (aX h1) (A9 (bV h0) (gc (fk 1 (aFy z) rfl) (A1 (bV h0) (gr (PV.fn 192 [] []) (gc (bV h0) gn))))))
abbrev Cel:=Int × List UInt8
def cE(c:Cel):List PV:=[aB c.1,aD c.2]
def rdM(j:Int)(s:List UInt8):Cel × Int:=if j=0 then (((bH s 999999).1,[]),(bH s 999999).2) else if j=1 then (((paM s).1,[]),(paM s).2) else if (if j=2 then mY s else mZ s)=true then ((0,s),0) else ((0,[]),11)
def wrM(j:Int)(c:Cel):List UInt8:=if j=0 then Lib.itoa c.1 else if j=1 then (ptM c.1).1 else c.2
def ckM(j:Int)(c:Cel):Int:=if j=0∨j=1 then (if within c.1 0 (if j=0 then 999999 else 360000)=false then 3 else if c.2≠[] then 11 else 0) else if c.1≠0∨(if j=2 then mY c.2 else mZ c.2)=false then 11 else 0
theorem bFx(s:List UInt8){base:Nat}:FV Tp 224 [.p (aD s),.rp [PV.fn 188 [] []] 0] base (.tup [.p (.agg [aB (rdM 0 s).1.1,aD (rdM 0 s).1.2]),.p (aB (rdM 0 s).2)]) []:=bVe rfl rfl
theorem bFy(s:List UInt8)(h:s.length≤90000){base:Nat}:FV Tp 224 [.p (aD s),.rp [PV.fn 39 [] []] 0] base (.tup [.p (.agg [aB (rdM 1 s).1.1,aD (rdM 1 s).1.2]),.p (aB (rdM 1 s).2)]) []:=bVf h rfl rfl
theorem bFz(s:List UInt8){base:Nat}:FV Tp 227 [.p (aD s),.rp [PV.fn 191 [] []] 0] base (.tup [.p (.agg [aB (rdM 2 s).1.1,aD (rdM 2 s).1.2]),.p (aB (rdM 2 s).2)]) []:=by
 by_cases h:mY s=true
 ·have e:rdM 2 s=((0,s),0):=by simp [rdM,h]
  rw [e];exact bVj h
 ·have e:rdM 2 s=((0,[]),11):=by simp [rdM,h]
  rw [e];exact bVi (by simpa using h)
theorem bGa(s:List UInt8){base:Nat}:FV Tp 227 [.p (aD s),.rp [PV.fn 192 [] []] 0] base (.tup [.p (.agg [aB (rdM 3 s).1.1,aD (rdM 3 s).1.2]),.p (aB (rdM 3 s).2)]) []:=by
 by_cases h:mZ s=true
 ·have e:rdM 3 s=((0,s),0):=by simp [rdM,h]
  rw [e];exact bVl h
 ·have e:rdM 3 s=((0,[]),11):=by simp [rdM,h]
  rw [e];exact bVk (by simpa using h)
theorem bVt(a:Int)(z:List UInt8)(h:inR a){base:Nat}:FV Tp 225 [.p (.agg [aB a,aD z]),.rp [PV.fn 120 [] []] 0] base (.p (aD (wrM 0 (a,z)))) []:=bVg h
theorem bVu(a:Int)(z:List UInt8){base:Nat}:FV Tp 225 [.p (.agg [aB a,aD z]),.rp [PV.fn 189 [] []] 0] base (.p (aD (wrM 1 (a,z)))) []:=bVh
theorem bGb(a:Int)(z:List UInt8){base:Nat}:FV Tp 228 [.p (.agg [aB a,aD z])] base (.p (aD (wrM 2 (a,z)))) []:=bVm
theorem bGc(a:Int)(z:List UInt8){base:Nat}:FV Tp 226 [.p (.agg [aB a,aD z]),.rp [aB 999999] 0] base (pI (ckM 0 (a,z))) []:=by
 by_cases h:within a 0 999999=true
 ·by_cases h2:z=[]
  ·have e:ckM 0 (a,z)=0:=by simp [ckM,h,h2]
   rw [e];exact bFw h h2
  ·have e:ckM 0 (a,z)=11:=by simp [ckM,h,h2]
   rw [e];exact bFv h h2
 ·have e:ckM 0 (a,z)=3:=by simp [ckM,h]
  rw [e];exact bFu (by simpa using h)
theorem bGd(a:Int)(z:List UInt8){base:Nat}:FV Tp 226 [.p (.agg [aB a,aD z]),.rp [aB 360000] 0] base (pI (ckM 1 (a,z))) []:=by
 by_cases h:within a 0 360000=true
 ·by_cases h2:z=[]
  ·have e:ckM 1 (a,z)=0:=by simp [ckM,h,h2]
   rw [e];exact bFw h h2
  ·have e:ckM 1 (a,z)=11:=by simp [ckM,h,h2]
   rw [e];exact bFv h h2
 ·have e:ckM 1 (a,z)=3:=by simp [ckM,h]
  rw [e];exact bFu (by simpa using h)
theorem bGe(a:Int)(z:List UInt8){base:Nat}:FV Tp 229 [.p (.agg [aB a,aD z]),.rp [PV.fn 191 [] []] 0] base (pI (ckM 2 (a,z))) []:=by
 by_cases h:a=0
 ·by_cases h2:mY z=true
  ·have e:ckM 2 (a,z)=0:=by simp [ckM,h,h2]
   rw [e];exact bVp h h2
  ·have e:ckM 2 (a,z)=11:=by simp [ckM,h2]
   rw [e];exact bVo h (by simpa using h2)
 ·have e:ckM 2 (a,z)=11:=by simp [ckM,h]
  rw [e];exact bVn h
theorem bGf(a:Int)(z:List UInt8){base:Nat}:FV Tp 229 [.p (.agg [aB a,aD z]),.rp [PV.fn 192 [] []] 0] base (pI (ckM 3 (a,z))) []:=by
 by_cases h:a=0
 ·by_cases h2:mZ z=true
  ·have e:ckM 3 (a,z)=0:=by simp [ckM,h,h2]
   rw [e];exact bVs h h2
  ·have e:ckM 3 (a,z)=11:=by simp [ckM,h2]
   rw [e];exact bVr h (by simpa using h2)
 ·have e:ckM 3 (a,z)=11:=by simp [ckM,h]
  rw [e];exact bVq h
end
section
section
variable {α:Type} {E:α→List PV} {k:Nat}
theorem qU(hE:∀ a,(E a).length=k)(l:List α):((l.map E).flatten).length=l.length*k:=by
 induction l with
 | nil=>simp
 | cons a l ih=>rw [fV,vG,Bz,hE,ih,eT,Nat.succ_mul];omega
theorem vR(hE:∀ a,(E a).length=k){l:List α}{i:Nat}{e:α}(h:l[i]? = some e):∃ a b,(l.map E).flatten=a++(E e++b)∧a.length=i*k:=by
 obtain ⟨hi,rfl⟩:=Cf.1 h;refine ⟨((l.take i).map E).flatten,((l.drop (i+1)).map E).flatten,?_,?_⟩
 ·have:l=l.take i++(l[i]::l.drop (i+1)):=by rw [← bDs hi,aUl]
  have e2:=congrArg (fun l=>(l.map E).flatten) this
  simp only [rB,fV,bKg,vG] at e2
  exact e2
 ·rw [qU hE,mQ];congr 1;omega
theorem aM{l:List α}{i f:Nat}(hE:∀ a,(E a).length=k){e:α}{x:PV}(h:l[i]? = some e)(hx:(E e)[f]? = some x):((l.map E).flatten)[i*k+f]? = some x:=by
 obtain ⟨a,b,e1,e2⟩:=vR hE h;have hf:=(Cf.1 hx).1;rw [e1,← e2,aBn (by omega),Nat.add_sub_cancel_left,aFn hf]
 exact hx
theorem cC{l:List α}{i:Nat}(hE:∀ a,(E a).length=k){e:α}(h:l[i]? = some e):i*k+k≤((l.map E).flatten).length:=by
 obtain ⟨a,b,e1,e2⟩:=vR hE h;rw [e1,Bz,Bz,hE,e2];omega
theorem bE{l:List α}{i:Nat}(hE:∀ a,(E a).length=k){e:α}(h:l[i]? = some e){x:PV}(hx:PV.agg (E e)=x):some (.agg ((((l.map E).flatten).drop (i*k)).take k):PV)=some x:=by
 obtain ⟨a,b,e1,e2⟩:=vR hE h;rw [e1,← e2,List.drop_left,List.take_left' (hE e),hx]
theorem bD{l:List α}{i:Int}(hE:∀ a,(E a).length=k)(hk:0<k)(h0:0≤i){e:α}(h:l[i.toNat]? = some e):0≤i∧i<(l.length:Int)∧i.toNat*k<((l.map E).flatten).length:=by
 have hi:=(Cf.1 h).1;refine ⟨h0,by omega,?_⟩
 rw [qU hE];exact Nat.mul_lt_mul_of_pos_right hi hk
end
end
section
variable {r0:Bool}{k:Int}{i i' Aq base:Nat}

noncomputable abbrev oL:Code:=sub (cd Tryz.f199) [1,0,1,0,0]
def aL(r:List Cel):PV := .sl r.length ((r.map cE).flatten)
abbrev bY(R:List (List Cel)):PV := .sl R.length (R.map aL)
theorem bUh{r:List Cel}(Al:r0=(decide ((r.length:Int) > 0))):FV Tp 183 [(.p (.sl r.length ((r.map cE).flatten)))] base (pB r0) []:=by
 subst Al;exact FV.fi func183 [] gn
def Dw(r:List Cel):Bool:=decide ((r.length:Int) > 0)
theorem bUi(r:List Cel){base:Nat}:FV Tp 183 [.p (.sl r.length ((r.map cE).flatten))] base (pB (Dw r)) []:=bUh rfl
theorem bLc{x:List Cel}(Al:r0=(!(Dw x))):FMM Tp 221 [(.p (.sl x.length ((x.map cE).flatten))),(.ptr 0 0)] [some (.box 229 [(.fn 183 [] [])])] (pB r0) [some (.box 229 [(.fn 183 [] [])])]:=by
 subst Al;exact FMM.fi 1 gE func221 [.c (pB (Dw x)) []] (gc (fk 1 (bUi x) rfl) gn)
theorem aQv(x:List Cel)  : FMM Tp 221 [.p (.sl x.length ((x.map cE).flatten)),.ptr 0 0] [some (.box 229 [(.fn 183 [] [])])] (pB (!(Dw x))) [some (.box 229 [(.fn 183 [] [])])]:=bLc rfl
def fK(l:List (List Cel))(i:Nat):St:=⟨fr 19 [(0,(.p (.sl l.length (l.map aL)))),(1,(.fn 221 [] [(.ptr 0 0)])),(7,(pI (l.length:Int))),(8,(pI (i:Int)))],[some (.box 229 [(.fn 183 [] [])])]⟩
theorem bLd{l:List (List Cel)}(hl0:aF Tp 1 oL (fK l 0) (.exit 0) (fK l Aq)):FMM Tp 199 [(.p (.sl l.length (l.map aL))),(.fn 221 [] [(.ptr 0 0)])] [some (.box 229 [(.fn 183 [] [])])] (pI (-1)) [some (.box 229 [(.fn 183 [] [])])]:=FMM.fi 1 gE func199 [hl0.k 6 (gZ ce)] (gc hl0.code gn)
theorem bLe{l:List (List Cel)}(hl0:aF Tp 1 oL (fK l 0) .ret (cK (fK l Aq) [(4,(pI (Aq:Int)))])):FMM Tp 199 [(.p (.sl l.length (l.map aL))),(.fn 221 [] [(.ptr 0 0)])] [some (.box 229 [(.fn 183 [] [])])] (pI (Aq:Int)) [some (.box 229 [(.fn 183 [] [])])]:=FMM.fi 1 gE func199 [hl0.k 6 (gZ ce)] (gc hl0.code gn)
section
variable{l:List (List Cel)}{Ab:List Cel}(h0:(i:Int)<(l.length:Int))(h1:l[i]? = some Ab)
include h0 h1
theorem aNv(h2:(Dw Ab)=false):aA Tp 1 oL (fK l i) .ret (cK (fK l i) [(4,(pI (i:Int)))]):=have k1:=mq [0] 1 (aQv Ab);aA.fi (gZ bq) [bT,.x (.sl Ab.length ((Ab.map cE).flatten)),k1.o,bT] (gc (cZ h2) (gc k1 (gc (atm aL h1) (gc (ixn aL h1) (g0 h0)))))
theorem aNw(h2:(Dw Ab)=true)(h3:co i)(Aj:i'=(i+1)):aA Tp 1 oL (fK l i) .normal (fK l i'):=by
 subst Aj;have k1:=mq [0] 1 (aQv Ab);exact aA.fi (gZ ce) [bT,.x (.sl Ab.length ((Ab.map cE).flatten)),k1.o,bF] (gc h3 (gc (aX h2) (gc k1 (gc (atm aL h1) (gc (ixn aL h1) (g0 h0))))))
end
theorem aNx{l:List (List Cel)}(h0:(l.length:Int)≤(i:Int)):aA Tp 1 oL (fK l i) (.exit 0) (fK l i):=aA.fi (gZ ce) [bF] (gc (bC h0) gn)
theorem bLf(l:List (List Cel))(hl:l.length≤100000):FMM Tp 199 [.p (bY l),(.fn 221 [] [(.ptr 0 0)])] [some (.box 229 [(.fn 183 [] [])])] (pI (mT (fun x => !(Dw x)) l)) [some (.box 229 [(.fn 183 [] [])])]:=by
 rcases aF.find (P:=Tp) (k:=1) (b:=oL) (fun i=>fK l i) (fun i _=>cK (fK l i) [(4,.p (aB (i:Int)))]) (fK l l.length) .ret (.exit 0) (by simp) (by simp) (fun x => !(Dw x)) l
  (fun i x hx hp=>aNw (by have:=bI hx;omega) hx (by simpa using hp) (aT (by have:=bI hx;omega)) rfl)
  (fun i x hx hp=>aNv (by have:=bI hx;omega) hx (by simpa using hp))
  (aNx (l:=l) (i:=l.length) (by omega)) with ⟨i,x,h1,h2,h3,h4⟩ | ⟨h1,h2,h3⟩
 ·rw [iU h2];exact bLe h4
 ·rw [iV h1];exact bLd h3
theorem bLg{l:List (List Cel)}(h0:l.length≤100000)(Al:r0=(decide ((mT (fun x => !(Dw x)) l) ≥ 0))):FMM Tp 135 [(.p (.sl l.length (l.map aL))),(.fn 221 [] [(.ptr 0 0)])] [some (.box 229 [(.fn 183 [] [])])] (pB r0) [some (.box 229 [(.fn 183 [] [])])]:=by
 subst Al;have k1:=mq [0] 1 (bLf l h0);exact FMM.fi 1 gE func135 [k1.o] (gc k1 gn)
theorem bLh(l:List (List Cel))(hl:l.length≤100000):FMM Tp 135 [.p (bY l),(.fn 221 [] [(.ptr 0 0)])] [some (.box 229 [(.fn 183 [] [])])] (pB (l.any (fun x => !(Dw x)))) [some (.box 229 [(.fn 183 [] [])])]:=bLg hl (kT _ _).symm
theorem bLi{l:List (List Cel)}(h0:l.length≤100000)(Al:r0=(!(l.any (fun x => !(Dw x))))):FV Tp 182 [(.p (.sl l.length (l.map aL))),(.fn 183 [] [])] base (pB r0) []:=by
 subst Al;have k1:=mq [0] 1 (bLh l h0);exact FV.fi func182 [k1.o] (gc k1 gn)
theorem xO(l:List (List Cel))(hl:l.length≤100000){base:Nat}:FV Tp 182 [.p (bY l),(.fn 183 [] [])] base (pB (l.all (Dw))) []:=bLi hl (by rw [List.all_eq_not_any_not])
theorem bUj{r:List Cel}(h0:(r.length:Int)=0):FV Tp 206 [(.p (.sl r.length ((r.map cE).flatten))),(.rp [(bK (aJ k))] 0)] base (pB true) []:=FV.fi func206 (rT 6) (Ht (dF h0) gn)
theorem bUk{r:List Cel}(h0:(r.length:Int)≠0)(Al:r0=((r.length:Int) == ((aJ k).length:Int))):FV Tp 206 [(.p (.sl r.length ((r.map cE).flatten))),(.rp [(bK (aJ k))] 0)] base (pB r0) []:=by
 subst Al;exact FV.fi func206 [bF,bF,bF,.x (bK (aJ k)),bF,bF,bF] (A1 (bL h0) (gr (bK (aJ k)) (A1 (bL h0) gn)))
def eX(k:Int)(r:List Cel):Bool:=decide ((r.length:Int)=0) || ((r.length:Int) == ((aJ k).length:Int))
theorem bUl(r:List Cel)(k:Int){base:Nat}:FV Tp 206 [.p (.sl r.length ((r.map cE).flatten)),.rp [bK (aJ k)] 0] base (pB (eX k r)) []:=by
 by_cases h:(r.length:Int)=0
 ·have e:eX k r=true:=by simp only [eX,h,decide_true,Bool.true_or]
  rw [e];exact bUj h
 ·exact bUk h (by simp only [eX,h,decide_false,Bool.false_or])
theorem bLj{x:List Cel}(Al:r0=(!(eX k x))):FMM Tp 221 [(.p (.sl x.length ((x.map cE).flatten))),(.ptr 0 0)] [some (.box 229 [(.fn 206 [] [(.rp [(bK (aJ k))] 0)])])] (pB r0) [some (.box 229 [(.fn 206 [] [(.rp [(bK (aJ k))] 0)])])]:=by
 subst Al;exact FMM.fi 1 gE func221 [.c (pB (eX k x)) []] (gc (fk 1 (bUl x k) rfl) gn)
theorem aQw(x:List Cel)(k:Int):FMM Tp 221 [.p (.sl x.length ((x.map cE).flatten)),.ptr 0 0] [some (.box 229 [(.fn 206 [] [(.rp [(bK (aJ k))] 0)])])] (pB (!(eX k x))) [some (.box 229 [(.fn 206 [] [(.rp [(bK (aJ k))] 0)])])]:=bLj rfl
def fL(l:List (List Cel))(k:Int)(i:Nat):St:=⟨fr 19 [(0,(.p (.sl l.length (l.map aL)))),(1,(.fn 221 [] [(.ptr 0 0)])),(7,(pI (l.length:Int))),(8,(pI (i:Int)))],[some (.box 229 [(.fn 206 [] [(.rp [(bK (aJ k))] 0)])])]⟩
theorem bLk{l:List (List Cel)}(hl0:aF Tp 1 oL (fL l k 0) (.exit 0) (fL l k Aq)):FMM Tp 199 [(.p (.sl l.length (l.map aL))),(.fn 221 [] [(.ptr 0 0)])] [some (.box 229 [(.fn 206 [] [(.rp [(bK (aJ k))] 0)])])] (pI (-1)) [some (.box 229 [(.fn 206 [] [(.rp [(bK (aJ k))] 0)])])]:=FMM.fi 1 gE func199 [hl0.k 6 (gZ ce)] (gc hl0.code gn)
theorem bLl{l:List (List Cel)}(hl0:aF Tp 1 oL (fL l k 0) .ret (cK (fL l k Aq) [(4,(pI (Aq:Int)))])):FMM Tp 199 [(.p (.sl l.length (l.map aL))),(.fn 221 [] [(.ptr 0 0)])] [some (.box 229 [(.fn 206 [] [(.rp [(bK (aJ k))] 0)])])] (pI (Aq:Int)) [some (.box 229 [(.fn 206 [] [(.rp [(bK (aJ k))] 0)])])]:=FMM.fi 1 gE func199 [hl0.k 6 (gZ ce)] (gc hl0.code gn)
section
variable{l:List (List Cel)}{Ab:List Cel}(h0:(i:Int)<(l.length:Int))(h1:l[i]? = some Ab)
include h0 h1
theorem aNy(h2:(eX k Ab)=false):aA Tp 1 oL (fL l k i) .ret (cK (fL l k i) [(4,(pI (i:Int)))]):=have k1:=mq [0] 1 (aQw Ab k);aA.fi (gZ bq) [bT,.x (.sl Ab.length ((Ab.map cE).flatten)),k1.o,bT] (gc (cZ h2) (gc k1 (gc (atm aL h1) (gc (ixn aL h1) (g0 h0)))))
theorem aNz(h2:(eX k Ab)=true)(h3:co i)(Aj:i'=(i+1)):aA Tp 1 oL (fL l k i) .normal (fL l k i'):=by
 subst Aj;have k1:=mq [0] 1 (aQw Ab k);exact aA.fi (gZ ce) [bT,.x (.sl Ab.length ((Ab.map cE).flatten)),k1.o,bF] (gc h3 (gc (aX h2) (gc k1 (gc (atm aL h1) (gc (ixn aL h1) (g0 h0))))))
end
theorem aOa{l:List (List Cel)}(h0:(l.length:Int)≤(i:Int)):aA Tp 1 oL (fL l k i) (.exit 0) (fL l k i):=aA.fi (gZ ce) [bF] (gc (bC h0) gn)
theorem bLm(l:List (List Cel))(k:Int)(hl:l.length≤100000):FMM Tp 199 [.p (bY l),(.fn 221 [] [(.ptr 0 0)])] [some (.box 229 [(.fn 206 [] [(.rp [(bK (aJ k))] 0)])])] (pI (mT (fun x => !(eX k x)) l)) [some (.box 229 [(.fn 206 [] [(.rp [(bK (aJ k))] 0)])])]:=by
 rcases aF.find (P:=Tp) (k:=1) (b:=oL) (fun i=>fL l k i) (fun i _=>cK (fL l k i) [(4,.p (aB (i:Int)))]) (fL l k l.length) .ret (.exit 0) (by simp) (by simp) (fun x => !(eX k x)) l
  (fun i x hx hp=>aNz (by have:=bI hx;omega) hx (by simpa using hp) (aT (by have:=bI hx;omega)) rfl)
  (fun i x hx hp=>aNy (by have:=bI hx;omega) hx (by simpa using hp))
  (aOa (l:=l) (i:=l.length) (by omega)) with ⟨i,x,h1,h2,h3,h4⟩ | ⟨h1,h2,h3⟩
 ·rw [iU h2];exact bLl h4
 ·rw [iV h1];exact bLk h3
theorem bLn{l:List (List Cel)}(h0:l.length≤100000)(Al:r0=(decide ((mT (fun x => !(eX k x)) l) ≥ 0))):FMM Tp 135 [(.p (.sl l.length (l.map aL))),(.fn 221 [] [(.ptr 0 0)])] [some (.box 229 [(.fn 206 [] [(.rp [(bK (aJ k))] 0)])])] (pB r0) [some (.box 229 [(.fn 206 [] [(.rp [(bK (aJ k))] 0)])])]:=by
 subst Al;have k1:=mq [0] 1 (bLm l k h0);exact FMM.fi 1 gE func135 [k1.o] (gc k1 gn)
theorem bLo(l:List (List Cel))(k:Int)(hl:l.length≤100000):FMM Tp 135 [.p (bY l),(.fn 221 [] [(.ptr 0 0)])] [some (.box 229 [(.fn 206 [] [(.rp [(bK (aJ k))] 0)])])] (pB (l.any (fun x => !(eX k x)))) [some (.box 229 [(.fn 206 [] [(.rp [(bK (aJ k))] 0)])])]:=bLn hl (kT _ _).symm
theorem bLp{l:List (List Cel)}(h0:l.length≤100000)(Al:r0=(!(l.any (fun x => !(eX k x))))):FV Tp 182 [(.p (.sl l.length (l.map aL))),(.fn 206 [] [(.rp [(bK (aJ k))] 0)])] base (pB r0) []:=by
 subst Al;have k1:=mq [0] 1 (bLo l k h0);exact FV.fi func182 [k1.o] (gc k1 gn)
theorem aFw(l:List (List Cel))(k:Int)(hl:l.length≤100000){base:Nat}:FV Tp 182 [.p (bY l),(.fn 206 [] [(.rp [(bK (aJ k))] 0)])] base (pB (l.all (eX k))) []:=bLp hl (by rw [List.all_eq_not_any_not])
end
section
variable {k ea eb Bc Cj Dn:Int}{i j q j' q' qa qb Hb base Gf Io B8 Ez:Nat}

noncomputable abbrev lO:Code:=sub (cd Tryz.f145) [1,1,1,1,0,1,0,0,1,1,0,0,1,1,0,0,1,1,0,0,1,1,0,0]
noncomputable abbrev rJ:Code:=sub (cd Tryz.f145) [1,1,1,1,0,1,0,0,1,1,0,0,1,1,0,0]
noncomputable abbrev aAh:Code:=sub (cd Tryz.f145) [1,1,1,1,0,1,0,0]
theorem bPs:0≤(0:Int)∧(0:Int)<2:=by first | decide | simp
theorem bPt:(decide ((0:Int)<2))=true:=by first | decide | simp
theorem bPu:0≤(1:Int)∧(1:Int)<2:=by first | decide | simp
theorem bPv:(decide ((1:Int)<2))=true:=by first | decide | simp
theorem bPw:0≤(0:Int)∧(0:Int)<4:=by first | decide | simp
theorem bPx:0≤(1:Int)∧(1:Int)<4:=by first | decide | simp
theorem bPy:0≤(2:Int)∧(2:Int)<4:=by first | decide | simp
theorem bPz:0≤(3:Int)∧(3:Int)<4:=by first | decide | simp
abbrev a6(k:Int):Mem:=[some (.box 65 [(.p (bK (aJ k)))]),some (.box 214 [(.fn 224 [] [(.rp [(PV.fn 188 [] [])] 0)]),(.fn 225 [] [(.rp [(PV.fn 120 [] [])] 0)]),(.fn 226 [] [(.rp [(aB 999999)] 0)]),(.fn 224 [] [(.rp [(PV.fn 39 [] [])] 0)]),(.fn 225 [] [(.rp [(PV.fn 189 [] [])] 0)]),(.fn 226 [] [(.rp [(aB 360000)] 0)]),(.fn 227 [] [(.rp [(PV.fn 191 [] [])] 0)]),(.fn 228 [] []),(.fn 229 [] [(.rp [(PV.fn 191 [] [])] 0)]),(.fn 227 [] [(.rp [(PV.fn 192 [] [])] 0)]),(.fn 228 [] []),(.fn 229 [] [(.rp [(PV.fn 192 [] [])] 0)])])]
def iJ(k:Int)(R:List (List Cel))(q:Nat):St:=⟨fr 56 [(1,(.p (.sl R.length (R.map aL)))),(5,(.ptr 0 0)),(7,(.ptr 1 0)),(24,(.p (.agg [(aB 3),(aB 11)]))),(25,(pI (q:Int)))],(a6 k)⟩
section
variable{R:List (List Cel)}(h0:R.length≤100000)
include h0
theorem bUf(h1:(R.all (eX k))=false):FV Tp 145 [(pI k),(.p (.sl R.length (R.map aL)))] base (pI 2) []:=have k1:=fk 0 (eY k) rfl;FV.fi func145 [k1.o,.c (pB (R.all (eX k))) [],bT] (gc (cZ h1) (gt (FC Tp 182 [(.p (.sl R.length (R.map aL))),(.fn 206 [] [(.ptr 0 0)])] [(0,(.box 65 [(.p (bK (aJ k)))]))] 1 (pB (R.all (eX k))) []) (fv (aFw R k h0)) (gc k1 gn)))
theorem bUg(h1:(R.all (eX k))=true)(Bp:aF Tp 0 aAh (iJ k R 0) (.exit 0) (iJ k R Hb)):FV Tp 145 [(pI k),(.p (.sl R.length (R.map aL)))] base (pI 0) []:=have k1:=fk 0 (eY k) rfl;have k2:=fk 1 (eK) rfl;FV.fi func145 [k1.o,.c (pB (R.all (eX k))) [],bF,k2.o,Bp.k 4 (gI ay [0,1])] (gc Bp.code (gc k2 (gc (aX h1) (gt (FC Tp 182 [(.p (.sl R.length (R.map aL))),(.fn 206 [] [(.ptr 0 0)])] [(0,(.box 65 [(.p (bK (aJ k)))]))] 1 (pB (R.all (eX k))) []) (fv (aFw R k h0)) (gc k1 gn)))))
theorem bFt{r0:Int}(h1:(R.all (eX k))=true)(Bp:aF Tp 0 aAh (iJ k R 0) .ret (cK (iJ k R Hb) [(4,(pI (if Hb=0 then 3 else 11)))]))(Al:r0=(if Hb=0 then 3 else 11)):FV Tp 145 [(pI k),(.p (.sl R.length (R.map aL)))] base (pI r0) []:=by
 subst Al;have k1:=fk 0 (eY k) rfl;have k2:=fk 1 (eK) rfl;exact FV.fi func145 [k1.o,.c (pB (R.all (eX k))) [],bF,k2.o,Bp.k 4 (gI ay [0,1])] (gc Bp.code (gc k2 (gc (aX h1) (gt (FC Tp 182 [(.p (.sl R.length (R.map aL))),(.fn 206 [] [(.ptr 0 0)])] [(0,(.box 65 [(.p (bK (aJ k)))]))] 1 (pB (R.all (eX k))) []) (fv (aFw R k h0)) (gc k1 gn)))))
end
def eD(k:Int)(R:List (List Cel))(i qa:Nat)(ea:Int):St:=⟨fr 56 [(1,(.p (.sl R.length (R.map aL)))),(5,(.ptr 0 0)),(7,(.ptr 1 0)),(9,(pI ea)),(24,(.p (.agg [(aB 3),(aB 11)]))),(25,(pI (qa:Int))),(28,(.p (.sl R.length (R.map aL)))),(29,(pI (R.length:Int))),(30,(pI (i:Int)))],(a6 k)⟩
theorem aDn{R:List (List Cel)}(Ar:q=0)(An:aF Tp 0 rJ (eD k R 0 0 3) (.exit 2) (eD k R Gf B8 Cj))(h2:inR (((B8+1):Nat):Int))(D7:q'=(B8+1)):aA Tp 0 aAh (iJ k R q) .normal (iJ k R q'):=by
 subst Ar;subst D7;exact aA.fi (gI ay [0,1]) [bT,An.k 7 (gI ao [0,1])] (gc h2 (gc An.code (gc bPs (gc bPt gn))))
theorem aXr{R:List (List Cel)}(Ar:q=0)(An:aF Tp 0 rJ (eD k R 0 0 3) .ret (cK (eD k R Gf B8 Cj) [(4,(pI Cj))])):aA Tp 0 aAh (iJ k R q) .ret (cK (iJ k R B8) [(4,(pI Cj))]):=by
 subst Ar;exact aA.fi (gI [0,1,2,2,6,1,8,16,26,30] [0,1]) [bT,An.k 7 (gI ao [0,1])] (gc An.code (gc bPs (gc bPt gn)))
theorem aXs{R:List (List Cel)}(Ar:q=1)(An:aF Tp 0 rJ (eD k R 0 1 11) (.exit 2) (eD k R Gf B8 Cj))(h2:inR (((B8+1):Nat):Int))(D7:q'=(B8+1)):aA Tp 0 aAh (iJ k R q) .normal (iJ k R q'):=by
 subst Ar;subst D7;exact aA.fi (gI ay [0,1]) [bT,An.k 7 (gI ao [0,1])] (gc h2 (gc An.code (gc bPu (gc bPv gn))))
theorem aXt{R:List (List Cel)}(Ar:q=1)(An:aF Tp 0 rJ (eD k R 0 1 11) .ret (cK (eD k R Gf B8 Cj) [(4,(pI Cj))])):aA Tp 0 aAh (iJ k R q) .ret (cK (iJ k R B8) [(4,(pI Cj))]):=by
 subst Ar;exact aA.fi (gI [0,1,2,2,6,1,8,16,26,30] [0,1]) [bT,An.k 7 (gI ao [0,1])] (gc An.code (gc bPu (gc bPv gn)))
theorem aXu{R:List (List Cel)}(Ar:q=2)(D7:q'=2):aA Tp 0 aAh (iJ k R q) (.exit 0) (iJ k R q'):=by
 subst Ar;subst D7;exact aA.fi (gI ay [0,1]) [bF] (gt ((decide ((2:Int)<2))=false) (by first | decide | simp) gn)
def dH(k:Int)(R:List (List Cel))(i:Nat)(Ac:List Cel)(j qb:Nat)(eb:Int):St:=⟨fr 56 [(1,(.p (.sl R.length (R.map aL)))),(5,(.ptr 0 0)),(7,(.ptr 1 0)),(9,(pI eb)),(11,(.p (.sl Ac.length ((Ac.map cE).flatten)))),(24,(.p (.agg [(aB 3),(aB 11)]))),(25,(pI (qb:Int))),(28,(.p (.sl R.length (R.map aL)))),(29,(pI (R.length:Int))),(30,(pI (i:Int))),(31,(pB (decide ((i:Int)<(R.length:Int))))),(32,(.rp (R.map aL) (i*1))),(33,(.p (.sl Ac.length ((Ac.map cE).flatten)))),(34,(.p (.sl Ac.length ((Ac.map cE).flatten)))),(35,(pI (Ac.length:Int))),(36,(pI (j:Int)))],(a6 k)⟩
section
variable{R:List (List Cel)}{Ac:List Cel}(h0:(i:Int)<(R.length:Int))(h1:R[i]? = some Ac)
include h0 h1
theorem aXv{i':Nat}(Bp:aF Tp 0 lO (dH k R i Ac 0 qa ea) (.exit 4) (dH k R i Ac Io Ez Dn))(h3:co i)(Aj:i'=(i+1)):aA Tp 0 rJ (eD k R i qa ea) .normal (eD k R i' Ez Dn):=by
 subst Aj;exact aA.fi (gI ao [0,1]) [bT,.x (.sl Ac.length ((Ac.map cE).flatten)),Bp.k 3 (gI ah [0,1])] (gc h3 (gc Bp.code (gc (atm aL h1) (gc (ixn aL h1) (g0 h0)))))
theorem aXw(Bp:aF Tp 0 lO (dH k R i Ac 0 qa ea) .ret (cK (dH k R i Ac Io Ez Dn) [(4,(pI Dn))])):aA Tp 0 rJ (eD k R i qa ea) .ret (cK (eD k R i Ez Dn) [(4,(pI Dn))]):=aA.fi (gI [0,1,2,2,6,1,8,1,10,14,26,2,31,24] [0,1]) [bT,.x (.sl Ac.length ((Ac.map cE).flatten)),Bp.k 3 (gI ah [0,1])] (gc Bp.code (gc (atm aL h1) (gc (ixn aL h1) (g0 h0))))
end
theorem aXx{R:List (List Cel)}(h0:(R.length:Int)≤(i:Int)):aA Tp 0 rJ (eD k R i qa ea) (.exit 2) (eD k R i qa ea):=aA.fi (gI ao [0,1]) [bF] (gc (bC h0) gn)
section
variable{Ac:List Cel}{A7:List UInt8}(h0:(j:Int)<(Ac.length:Int))(h1:Ac[j]? = some (Bc,A7))
include h0 h1
theorem aXy{R:List (List Cel)}(h2:(aJ k)[j]? = some 0)(h3:(ckM 0 (Bc,A7))=eb):aA Tp 0 lO (dH k R i Ac j qb eb) .ret (cK (dH k R i Ac j qb eb) [(4,(pI eb))]):=have k1:=fk 3 (bGc Bc A7) rfl;aA.fi (gI ai [0,1]) [bT,.x (.agg [(aB Bc),(aD A7)]),.x (aB 0),k1.o,bT] (gc (dF h3) (gc k1 (gc bPw (gc (atm aB h2) (gc (ixn aB h2) (gc (bE (E:=cE) (i:=j) (k:=2) (fun _=>rfl) h1 rfl) (gc (cC (E:=cE) (i:=j) (k:=2) (fun _=>rfl) h1) (gc (bD (E:=cE) (k:=2) (i:=(j:Int)) (fun _=>rfl) (by decide) (Bu _) h1) (g0 h0)))))))))
theorem aXz{R:List (List Cel)}(h2:(aJ k)[j]? = some 0)(h3:(ckM 0 (Bc,A7))≠eb)(h4:co j)(Bv:j'=(j+1)):aA Tp 0 lO (dH k R i Ac j qb eb) .normal (dH k R i Ac j' qb eb):=by
 subst Bv;have k1:=fk 3 (bGc Bc A7) rfl;exact aA.fi (gI ah [0,1]) [bT,.x (.agg [(aB Bc),(aD A7)]),.x (aB 0),k1.o,bF] (gc h4 (gc (bL h3) (gc k1 (gc bPw (gc (atm aB h2) (gc (ixn aB h2) (gc (bE (E:=cE) (i:=j) (k:=2) (fun _=>rfl) h1 rfl) (gc (cC (E:=cE) (i:=j) (k:=2) (fun _=>rfl) h1) (gc (bD (E:=cE) (k:=2) (i:=(j:Int)) (fun _=>rfl) (by decide) (Bu _) h1) (g0 h0))))))))))
theorem aYa{R:List (List Cel)}(h2:(aJ k)[j]? = some 1)(h3:(ckM 1 (Bc,A7))=eb):aA Tp 0 lO (dH k R i Ac j qb eb) .ret (cK (dH k R i Ac j qb eb) [(4,(pI eb))]):=have k1:=fk 3 (bGd Bc A7) rfl;aA.fi (gI ai [0,1]) [bT,.x (.agg [(aB Bc),(aD A7)]),.x (aB 1),k1.o,bT] (gc (dF h3) (gc k1 (gc bPx (gc (atm aB h2) (gc (ixn aB h2) (gc (bE (E:=cE) (i:=j) (k:=2) (fun _=>rfl) h1 rfl) (gc (cC (E:=cE) (i:=j) (k:=2) (fun _=>rfl) h1) (gc (bD (E:=cE) (k:=2) (i:=(j:Int)) (fun _=>rfl) (by decide) (Bu _) h1) (g0 h0)))))))))
theorem aYb{R:List (List Cel)}(h2:(aJ k)[j]? = some 1)(h3:(ckM 1 (Bc,A7))≠eb)(h4:co j)(Bv:j'=(j+1)):aA Tp 0 lO (dH k R i Ac j qb eb) .normal (dH k R i Ac j' qb eb):=by
 subst Bv;have k1:=fk 3 (bGd Bc A7) rfl;exact aA.fi (gI ah [0,1]) [bT,.x (.agg [(aB Bc),(aD A7)]),.x (aB 1),k1.o,bF] (gc h4 (gc (bL h3) (gc k1 (gc bPx (gc (atm aB h2) (gc (ixn aB h2) (gc (bE (E:=cE) (i:=j) (k:=2) (fun _=>rfl) h1 rfl) (gc (cC (E:=cE) (i:=j) (k:=2) (fun _=>rfl) h1) (gc (bD (E:=cE) (k:=2) (i:=(j:Int)) (fun _=>rfl) (by decide) (Bu _) h1) (g0 h0))))))))))
theorem aYc{R:List (List Cel)}(h2:(aJ k)[j]? = some 2)(h3:(ckM 2 (Bc,A7))=eb):aA Tp 0 lO (dH k R i Ac j qb eb) .ret (cK (dH k R i Ac j qb eb) [(4,(pI eb))]):=have k1:=fk 3 (bGe Bc A7) rfl;aA.fi (gI ai [0,1]) [bT,.x (.agg [(aB Bc),(aD A7)]),.x (aB 2),k1.o,bT] (gc (dF h3) (gc k1 (gc bPy (gc (atm aB h2) (gc (ixn aB h2) (gc (bE (E:=cE) (i:=j) (k:=2) (fun _=>rfl) h1 rfl) (gc (cC (E:=cE) (i:=j) (k:=2) (fun _=>rfl) h1) (gc (bD (E:=cE) (k:=2) (i:=(j:Int)) (fun _=>rfl) (by decide) (Bu _) h1) (g0 h0)))))))))
theorem aYd{R:List (List Cel)}(h2:(aJ k)[j]? = some 2)(h3:(ckM 2 (Bc,A7))≠eb)(h4:co j)(Bv:j'=(j+1)):aA Tp 0 lO (dH k R i Ac j qb eb) .normal (dH k R i Ac j' qb eb):=by
 subst Bv;have k1:=fk 3 (bGe Bc A7) rfl;exact aA.fi (gI ah [0,1]) [bT,.x (.agg [(aB Bc),(aD A7)]),.x (aB 2),k1.o,bF] (gc h4 (gc (bL h3) (gc k1 (gc bPy (gc (atm aB h2) (gc (ixn aB h2) (gc (bE (E:=cE) (i:=j) (k:=2) (fun _=>rfl) h1 rfl) (gc (cC (E:=cE) (i:=j) (k:=2) (fun _=>rfl) h1) (gc (bD (E:=cE) (k:=2) (i:=(j:Int)) (fun _=>rfl) (by decide) (Bu _) h1) (g0 h0))))))))))
theorem aYe{R:List (List Cel)}(h2:(aJ k)[j]? = some 3)(h3:(ckM 3 (Bc,A7))=eb):aA Tp 0 lO (dH k R i Ac j qb eb) .ret (cK (dH k R i Ac j qb eb) [(4,(pI eb))]):=have k1:=fk 3 (bGf Bc A7) rfl;aA.fi (gI ai [0,1]) [bT,.x (.agg [(aB Bc),(aD A7)]),.x (aB 3),k1.o,bT] (gc (dF h3) (gc k1 (gc bPz (gc (atm aB h2) (gc (ixn aB h2) (gc (bE (E:=cE) (i:=j) (k:=2) (fun _=>rfl) h1 rfl) (gc (cC (E:=cE) (i:=j) (k:=2) (fun _=>rfl) h1) (gc (bD (E:=cE) (k:=2) (i:=(j:Int)) (fun _=>rfl) (by decide) (Bu _) h1) (g0 h0)))))))))
theorem aYf{R:List (List Cel)}(h2:(aJ k)[j]? = some 3)(h3:(ckM 3 (Bc,A7))≠eb)(h4:co j)(Bv:j'=(j+1)):aA Tp 0 lO (dH k R i Ac j qb eb) .normal (dH k R i Ac j' qb eb):=by
 subst Bv;have k1:=fk 3 (bGf Bc A7) rfl;exact aA.fi (gI ah [0,1]) [bT,.x (.agg [(aB Bc),(aD A7)]),.x (aB 3),k1.o,bF] (gc h4 (gc (bL h3) (gc k1 (gc bPz (gc (atm aB h2) (gc (ixn aB h2) (gc (bE (E:=cE) (i:=j) (k:=2) (fun _=>rfl) h1 rfl) (gc (cC (E:=cE) (i:=j) (k:=2) (fun _=>rfl) h1) (gc (bD (E:=cE) (k:=2) (i:=(j:Int)) (fun _=>rfl) (by decide) (Bu _) h1) (g0 h0))))))))))
end
theorem aYg{R:List (List Cel)}{Ac:List Cel}(h0:(Ac.length:Int)≤(j:Int)):aA Tp 0 lO (dH k R i Ac j qb eb) (.exit 4) (dH k R i Ac j qb eb):=aA.fi (gI ah [0,1]) [bF] (gc (bC h0) gn)
def aJn(k:Int)(x:List Cel):List Int:=List.zipWith ckM (aJ k) x
def aAi(k e:Int)(x:List Cel):Bool:=(aJn k x).any (fun c=>c == e)
def kW(k:Int)(R:List (List Cel)):Int:=if R.all (eX k)=false then 2 else if R.any (aAi k 3)=true then 3 else if R.any (aAi k 11)=true then 11 else 0
theorem jO{k t:Int}{j:Nat}(h:(aJ k)[j]? = some t):t=0∨t=1∨t=2∨t=3:=by
 have:=Ch h;unfold aJ at this
 split at this
 ·simp at this;omega
 ·split at this
  ·simp at this;omega
  ·split at this
   ·simp at this;omega
   ·split at this <;> (simp at this;omega)
theorem aFu{k:Int}{x:List Cel}{j:Nat}{c:Int}(h:(aJn k x)[j]? = some c):∃ t a z,(aJ k)[j]? = some t∧x[j]? = some (a,z)∧c=ckM t (a,z):=by
 unfold aJn at h
 rw [List.getElem?_zipWith] at h
 cases h1:(aJ k)[j]? with
 | none=>rw [h1] at h;simp at h
 | some t =>
  cases h2:x[j]? with
  | none=>rw [h1,h2] at h;simp at h
  | some c2 =>
   rw [h1,h2] at h
   exact ⟨t,c2.1,c2.2,rfl,rfl,by simpa using h.symm⟩
theorem bLb{k:Int}{x:List Cel}(h:eX k x=true):(aJn k x).length=x.length∧x.length≤4:=by
 have hc:(aJ k).length≤4:=by unfold aJ;(repeat' split) <;> simp
 unfold aJn;rw [List.length_zipWith];unfold eX at h
 rw [aBp] at h
 rcases h with h | h
 ·have:=of_decide_eq_true h
  omega
 ·have:=eq_of_beq h
  omega
theorem Kg{k:Int}{R:List (List Cel)}{i:Nat}{x:List Cel}(qb:Nat)(eb:Int)(hf:eX k x=true) :
  (aAi k eb x=true∧∃ j,aF Tp 0 lO (dH k R i x 0 qb eb) .ret (cK (dH k R i x j qb eb) [(4,(pI eb))]))∨(aAi k eb x=false∧aF Tp 0 lO (dH k R i x 0 qb eb) (.exit 4) (dH k R i x x.length qb eb)):=by
 obtain ⟨hl,h4⟩:=bLb hf
 rcases aF.find (P:=Tp) (k:=0) (b:=lO) (fun j=>dH k R i x j qb eb) (fun j _=>cK (dH k R i x j qb eb) [(4,(pI eb))]) (dH k R i x x.length qb eb) .ret (.exit 4) (by simp) (by simp) (fun c=>c == eb) (aJn k x)
  (fun j c hx hp=>by
   obtain ⟨t,a,z,h1,h2,rfl⟩:=aFu hx;have hj:=bI h2;have hp:ckM t (a,z)≠eb:=by simpa using hp
   rcases jO h1 with rfl | rfl | rfl | rfl
   ·exact aXz (by omega) h2 h1 hp (aT (by omega)) rfl
   ·exact aYb (by omega) h2 h1 hp (aT (by omega)) rfl
   ·exact aYd (by omega) h2 h1 hp (aT (by omega)) rfl
   ·exact aYf (by omega) h2 h1 hp (aT (by omega)) rfl)
  (fun j c hx hp=>by
   obtain ⟨t,a,z,h1,h2,rfl⟩:=aFu hx;have hj:=bI h2;have hp:ckM t (a,z)=eb:=by simpa using hp
   rcases jO h1 with rfl | rfl | rfl | rfl
   ·exact aXy (by omega) h2 h1 hp
   ·exact aYa (by omega) h2 h1 hp
   ·exact aYc (by omega) h2 h1 hp
   ·exact aYe (by omega) h2 h1 hp)
  (by rw [hl];exact aYg (by omega)) with ⟨j,c,h1,h2,h3,h5⟩ | ⟨h1,h2,h3⟩
 ·exact .inl ⟨List.any_eq_true.2 ⟨c,Ch h1,h3⟩,j,h5⟩
 ·exact .inr ⟨h2,h3⟩
theorem Kh{k:Int}{R:List (List Cel)}(hR:R.length≤100000)(qa:Nat)(ea:Int)(hf:R.all (eX k)=true) :
  (R.any (aAi k ea)=true∧∃ i,aF Tp 0 rJ (eD k R 0 qa ea) .ret (cK (eD k R i qa ea) [(4,(pI ea))]))∨(R.any (aAi k ea)=false∧aF Tp 0 rJ (eD k R 0 qa ea) (.exit 2) (eD k R R.length qa ea)):=by
 rw [iD] at hf
 rcases aF.find (P:=Tp) (k:=0) (b:=rJ) (fun i=>eD k R i qa ea) (fun i _=>cK (eD k R i qa ea) [(4,(pI ea))]) (eD k R R.length qa ea) .ret (.exit 2) (by simp) (by simp) (aAi k ea) R
  (fun i x hx hp=>by
   have hi:=bI hx
   rcases Kg (R:=R) (i:=i) qa ea (hf x (Ch hx)) with ⟨q,_⟩ | ⟨_,L⟩
   ·rw [hp] at q;cases q
   ·exact aXv (by omega) hx L (aT (by omega)) rfl)
  (fun i x hx hp=>by
   have hi:=bI hx
   rcases Kg (R:=R) (i:=i) qa ea (hf x (Ch hx)) with ⟨_,j,L⟩ | ⟨q,_⟩
   ·exact aXw (by omega) hx L
   ·rw [hp] at q;cases q)
  (aXx (by omega)) with ⟨i,x,h1,h2,h3,h5⟩ | ⟨h1,h2,h3⟩
 ·exact .inl ⟨List.any_eq_true.2 ⟨x,Ch h1,h3⟩,i,h5⟩
 ·exact .inr ⟨h2,h3⟩
theorem aFv(k:Int)(R:List (List Cel))(hR:R.length≤100000){base:Nat}:FV Tp 145 [.p (aB k),.p (bY R)] base (pI (kW k R)) []:=by
 unfold kW;cases hf:R.all (eX k)
 ·rw [if_pos rfl];exact bUf hR hf
 ·rw [if_neg (by simp)]
  rcases Kh hR 0 3 hf with ⟨a,i,L⟩ | ⟨a,L⟩
  ·rw [if_pos a]
   exact bFt (Hb:=0) hR hf (.exit (aXr rfl L) (by simp)) rfl
  ·rw [if_neg (by rw [a];simp)]
   rcases Kh hR 1 11 hf with ⟨a2,i,L2⟩ | ⟨a2,L2⟩
   ·rw [if_pos a2]
    exact bFt (Hb:=1) hR hf (.step (aDn rfl L (aT (by omega)) rfl) (.exit (aXt rfl L2) (by simp))) rfl
   ·rw [if_neg (by rw [a2];simp)]
    exact bUg (Hb:=2) hR hf (.step (aDn rfl L (aT (by omega)) rfl) (.step (aXs rfl L2 (aT (by omega)) rfl) (.exit (aXu rfl rfl) (by simp))))
end
section
variable {k x y a0 a1 a2 b0 b1 b2 r0 Bg:Int}{i i' Aq base:Nat}

noncomputable abbrev uF:Code:=sub (cd Tryz.f178) [1,0,1,0,0]
noncomputable abbrev aAg:Code:=sub (cd Tryz.f105) [1,1,1,0,1,0,0]
theorem aJk:0≤(0:Int)∧(0:Int)<3:=by first | decide | simp
theorem aJl:0≤(1:Int)∧(1:Int)<3:=by first | decide | simp
theorem aJm:0≤(2:Int)∧(2:Int)<3:=by first | decide | simp
theorem bPl:(decide ((3:Int)<3))=false:=by first | decide | simp
theorem bPm:(decide ((0:Int) ≥ 3))=false:=by first | decide | simp
theorem bPn:(decide ((0:Int)<3))=true:=by first | decide | simp
theorem bPo:(decide ((1:Int) ≥ 3))=false:=by first | decide | simp
theorem bPp:(decide ((1:Int)<3))=true:=by first | decide | simp
theorem bPq:(decide ((2:Int) ≥ 3))=false:=by first | decide | simp
theorem bPr:(decide ((2:Int)<3))=true:=by first | decide | simp
def iI(k:Int)(r:List Cel)(i:Nat)(a0 a1 a2:Int):St:=⟨fr 27 [(1,(.p (.sl r.length ((r.map cE).flatten)))),(4,(.ptr 0 0)),(7,(.ptr 1 0)),(14,(pI (aN k))),(15,(pI (i:Int)))],[some (.box 186 [(pI 0),(pI 0),(pI 0)]),some (.box 186 [(pI a0),(pI a1),(pI a2)])]⟩
theorem aNs{r:List Cel}{a0'1 a1'2 a2'3:Int}(hl0:aF Tp 0 aAg (iI k r 0 0 0 0) (.exit 0) (iI k r Aq a0'1 a1'2 a2'3)):FV Tp 105 [(pI k),(.p (.sl r.length ((r.map cE).flatten)))] base (.p (.agg [(aB a0'1),(aB a1'2),(aB a2'3)])) []:=have k1:=fk 1 (eY k) rfl;FV.fi func105 [k1.o,hl0.k 6 (gI b6 [0,1])] (gc hl0.code (gc k1 gn))
theorem vM{r:List Cel}{Bi:List UInt8}(Ar:i=0)(h1:(0:Int)<(aN k))(h2:r[0]? = some (Bg,Bi))(Aj:i'=1):aA Tp 0 aAg (iI k r i a0 a1 a2) .normal (iI k r i' Bg a1 a2):=by
 subst Ar;subst Aj;exact aA.fi (gI b6 [0,1]) [bT,.x (aB Bg)] (gt (inR 1) (by show _∧_;omega) (gc aJk (gt (((r.map cE).flatten)[0]? = some (aB Bg)) (aM (E:=cE) (i:=0) (f:=0) (k:=2) (fun _=>rfl) h2 rfl) (gc (bD (E:=cE) (k:=2) (i:=(0:Int)) (fun _=>rfl) (by decide) (by first | decide | simp) h2) (gc (cN h1) gn)))))
theorem aDl{r:List Cel}{Bi:List UInt8}(Ar:i=1)(h1:(1:Int)<(aN k))(h2:r[1]? = some (Bg,Bi))(Aj:i'=2):aA Tp 0 aAg (iI k r i a0 a1 a2) .normal (iI k r i' a0 Bg a2):=by
 subst Ar;subst Aj;exact aA.fi (gI b6 [0,1]) [bT,.x (aB Bg)] (gt (inR 2) (by show _∧_;omega) (gc aJl (gt (((r.map cE).flatten)[2]? = some (aB Bg)) (aM (E:=cE) (i:=1) (f:=0) (k:=2) (fun _=>rfl) h2 rfl) (gc (bD (E:=cE) (k:=2) (i:=(1:Int)) (fun _=>rfl) (by decide) (by first | decide | simp) h2) (gc (cN h1) gn)))))
theorem aXi{r:List Cel}(Ar:i=1)(h1:(aN k)≤1)(Aj:i'=1):aA Tp 0 aAg (iI k r i a0 a1 a2) (.exit 0) (iI k r i' a0 a1 a2):=by
 subst Ar;subst Aj;exact aA.fi (gI b6 [0,1]) [bF] (gc (bC h1) gn)
theorem aXj{r:List Cel}{Bi:List UInt8}(Ar:i=2)(h1:(2:Int)<(aN k))(h2:r[2]? = some (Bg,Bi))(Aj:i'=3):aA Tp 0 aAg (iI k r i a0 a1 a2) .normal (iI k r i' a0 a1 Bg):=by
 subst Ar;subst Aj;exact aA.fi (gI b6 [0,1]) [bT,.x (aB Bg)] (gt (inR 3) (by show _∧_;omega) (gc aJm (gt (((r.map cE).flatten)[4]? = some (aB Bg)) (aM (E:=cE) (i:=2) (f:=0) (k:=2) (fun _=>rfl) h2 rfl) (gc (bD (E:=cE) (k:=2) (i:=(2:Int)) (fun _=>rfl) (by decide) (by first | decide | simp) h2) (gc (cN h1) gn)))))
theorem aXk{r:List Cel}(Ar:i=2)(h1:(aN k)≤2)(Aj:i'=2):aA Tp 0 aAg (iI k r i a0 a1 a2) (.exit 0) (iI k r i' a0 a1 a2):=by
 subst Ar;subst Aj;exact aA.fi (gI b6 [0,1]) [bF] (gc (bC h1) gn)
theorem aXl{r:List Cel}(Ar:i=3)(h1:(aN k)≤3)(Aj:i'=3):aA Tp 0 aAg (iI k r i a0 a1 a2) (.exit 0) (iI k r i' a0 a1 a2):=by
 subst Ar;subst Aj;exact aA.fi (gI b6 [0,1]) [bF] (gc (bC h1) gn)
def aK(k:Int)(r:List Cel)(j:Nat):Int:=if (j:Int)<aN k then ((r[j]?).getD (0,[])).1 else 0
theorem vN{r:List Cel}{j:Nat}(h:j<r.length):r[j]? = some (((r[j]?).getD (0,[])).1,((r[j]?).getD (0,[])).2):=by
 rw [B4 h];rfl
theorem eC(k:Int)(r:List Cel)(h:aN k≤(r.length:Int)){base:Nat}:FV Tp 105 [.p (aB k),.p (.sl r.length ((r.map cE).flatten))] base (.p (.agg [aB (aK k r 0),aB (aK k r 1),aB (aK k r 2)])) []:=by
 have hk:aN k=1∨aN k=2∨aN k=3:=by unfold aN;split <;> (try split) <;> simp
 rcases hk with e | e | e
 ·have a0:aK k r 0=((r[0]?).getD (0,[])).1:=if_pos (by omega)
  have a1:aK k r 1=0:=if_neg (by omega)
  have a2:aK k r 2=0:=if_neg (by omega)
  rw [a0,a1,a2];exact aNs (.step (vM rfl (by omega) (vN (by omega)) rfl) (.exit (aXi rfl (by omega) rfl) (by simp)))
 ·have a0:aK k r 0=((r[0]?).getD (0,[])).1:=if_pos (by omega)
  have a1:aK k r 1=((r[1]?).getD (0,[])).1:=if_pos (by omega)
  have a2:aK k r 2=0:=if_neg (by omega)
  rw [a0,a1,a2];exact aNs (.step (vM rfl (by omega) (vN (by omega)) rfl) (.step (aDl rfl (by omega) (vN (by omega)) rfl) (.exit (aXk rfl (by omega) rfl) (by simp))))
 ·have a0:aK k r 0=((r[0]?).getD (0,[])).1:=if_pos (by omega)
  have a1:aK k r 1=((r[1]?).getD (0,[])).1:=if_pos (by omega)
  have a2:aK k r 2=((r[2]?).getD (0,[])).1:=if_pos (by omega)
  rw [a0,a1,a2];exact aNs (.step (vM rfl (by omega) (vN (by omega)) rfl) (.step (aDl rfl (by omega) (vN (by omega)) rfl) (.step (aXj rfl (by omega) (vN (by omega)) rfl) (.exit (aXl rfl (by omega) rfl) (by simp)))))
theorem aNt{r0:Bool}(Al:r0=(x != x)):FV Tp 215 [(pI x)] base (pB r0) []:=by
 subst Al;exact FV.fi func215 [] gn
theorem vO(x:Int){base:Nat}:FV Tp 215 [.p (aB x)] base (pB false) []:=by
 first | exact aNt | exact aNt rfl | exact aNt (by simp)
theorem bTz(h0:x<y):FV Tp 163 [(pI x),(pI y)] base (pI (-1)) []:=FV.fi func163 [.c (pB false) [],.c (pB false) [],bF,bF,bT] (gc (cN h0) (gf (gf (gc (fk 0 (vO y) rfl) (gc (fk 0 (vO x) rfl) gn)))))
theorem bUa(h0:y≤x)(h1:y<x):FV Tp 163 [(pI x),(pI y)] base (pI 1) []:=FV.fi func163 [.c (pB false) [],.c (pB false) [],bF,bF,bF,bT] (gc (cN h1) (gc (bC h0) (gf (gf (gc (fk 0 (vO y) rfl) (gc (fk 0 (vO x) rfl) gn))))))
theorem bUb(h0:y≤x)(h1:x≤y):FV Tp 163 [(pI x),(pI y)] base (pI 0) []:=FV.fi func163 [.c (pB false) [],.c (pB false) [],bF,bF,bF,bF] (gc (bC h1) (gc (bC h0) (gf (gf (gc (fk 0 (vO y) rfl) (gc (fk 0 (vO x) rfl) gn))))))
def jB(x y:Int):Int:=if x<y then -1 else if y<x then 1 else 0
theorem vP(x y:Int){base:Nat}:FV Tp 163 [.p (aB x),.p (aB y)] base (pI (jB x y)) []:=by
 unfold jB
 by_cases h:x<y
 ·rw [if_pos h];exact bTz h
 ·rw [if_neg h]
  by_cases h2:y<x
  ·rw [if_pos h2];exact bUa (by omega) h2
  ·rw [if_neg h2];exact bUb (by omega) (by omega)
def n3(a b c:Int)(i:Nat):Int:=if i=0 then a else if i=1 then b else c
def eW(a0 a1 a2 b0 b1 b2:Int)(i:Nat):St:=⟨fr 36 [(0,(.arr 0 0 3)),(1,(.arr 1 0 3)),(9,(.arr 0 0 3)),(10,(pI 3)),(11,(pI (i:Int)))],[some (.box 186 [(pI a0),(pI a1),(pI a2)]),some (.box 186 [(pI b0),(pI b1),(pI b2)])]⟩
theorem bUc(hl0:aF Tp 2 uF (eW a0 a1 a2 b0 b1 b2 0) (.exit 0) (eW a0 a1 a2 b0 b1 b2 Aq)):FMM Tp 178 [(.arr 0 0 3),(.arr 1 0 3)] [some (.box 186 [(pI a0),(pI a1),(pI a2)]),some (.box 186 [(pI b0),(pI b1),(pI b2)])] (pI 0) [some (.box 186 [(pI a0),(pI a1),(pI a2)]),some (.box 186 [(pI b0),(pI b1),(pI b2)])]:=FMM.fi 2 gE func178 [hl0.k 6 (gZ c7),bF] (gc bPl (gc hl0.code gn))
theorem aNu(hl0:aF Tp 2 uF (eW a0 a1 a2 b0 b1 b2 0) .ret (cK (eW a0 a1 a2 b0 b1 b2 Aq) [(4,(pI (jB (n3 a0 a1 a2 Aq) (n3 b0 b1 b2 Aq))))]))(Al:r0=(jB (n3 a0 a1 a2 Aq) (n3 b0 b1 b2 Aq))):FMM Tp 178 [(.arr 0 0 3),(.arr 1 0 3)] [some (.box 186 [(pI a0),(pI a1),(pI a2)]),some (.box 186 [(pI b0),(pI b1),(pI b2)])] (pI r0) [some (.box 186 [(pI a0),(pI a1),(pI a2)]),some (.box 186 [(pI b0),(pI b1),(pI b2)])]:=by
 subst Al;exact FMM.fi 2 gE func178 [hl0.k 6 (gZ c7)] (gc hl0.code gn)
theorem aXm(Ar:i=0)(h1:(jB a0 b0)≠0)(Aj:i'=0):aA Tp 2 uF (eW a0 a1 a2 b0 b1 b2 i) .ret (cK (eW a0 a1 a2 b0 b1 b2 i') [(4,(pI (jB a0 b0)))]):=by
 subst Ar;subst Aj;have k1:=fk 2 (vP a0 b0) rfl;exact aA.fi (gZ [2,2,5,4,12,19]) [bT,bF,k1.o,bT] (gc (fD h1) (gc k1 (gc aJk (gc bPm (gc aJk (gc bPn gn))))))
theorem vQ(Ar:i=0)(h1:(jB a0 b0)=0)(Aj:i'=1):aA Tp 2 uF (eW a0 a1 a2 b0 b1 b2 i) .normal (eW a0 a1 a2 b0 b1 b2 i'):=by
 subst Ar;subst Aj;have k1:=fk 2 (vP a0 b0) rfl;exact aA.fi (gZ c7) [bT,bF,k1.o,bF] (gt (inR 1) (by show _∧_;omega) (gc (bV h1) (gc k1 (gc aJk (gc bPm (gc aJk (gc bPn gn)))))))
theorem aXn(Ar:i=1)(h1:(jB a1 b1)≠0)(Aj:i'=1):aA Tp 2 uF (eW a0 a1 a2 b0 b1 b2 i) .ret (cK (eW a0 a1 a2 b0 b1 b2 i') [(4,(pI (jB a1 b1)))]):=by
 subst Ar;subst Aj;have k1:=fk 2 (vP a1 b1) rfl;exact aA.fi (gZ [2,2,5,4,12,19]) [bT,bF,k1.o,bT] (gc (fD h1) (gc k1 (gc aJl (gc bPo (gc aJl (gc bPp gn))))))
theorem aDm(Ar:i=1)(h1:(jB a1 b1)=0)(Aj:i'=2):aA Tp 2 uF (eW a0 a1 a2 b0 b1 b2 i) .normal (eW a0 a1 a2 b0 b1 b2 i'):=by
 subst Ar;subst Aj;have k1:=fk 2 (vP a1 b1) rfl;exact aA.fi (gZ c7) [bT,bF,k1.o,bF] (gt (inR 2) (by show _∧_;omega) (gc (bV h1) (gc k1 (gc aJl (gc bPo (gc aJl (gc bPp gn)))))))
theorem aXo(Ar:i=2)(h1:(jB a2 b2)≠0)(Aj:i'=2):aA Tp 2 uF (eW a0 a1 a2 b0 b1 b2 i) .ret (cK (eW a0 a1 a2 b0 b1 b2 i') [(4,(pI (jB a2 b2)))]):=by
 subst Ar;subst Aj;have k1:=fk 2 (vP a2 b2) rfl;exact aA.fi (gZ [2,2,5,4,12,19]) [bT,bF,k1.o,bT] (gc (fD h1) (gc k1 (gc aJm (gc bPq (gc aJm (gc bPr gn))))))
theorem aXp(Ar:i=2)(h1:(jB a2 b2)=0)(Aj:i'=3):aA Tp 2 uF (eW a0 a1 a2 b0 b1 b2 i) .normal (eW a0 a1 a2 b0 b1 b2 i'):=by
 subst Ar;subst Aj;have k1:=fk 2 (vP a2 b2) rfl;exact aA.fi (gZ c7) [bT,bF,k1.o,bF] (gt (inR 3) (by show _∧_;omega) (gc (bV h1) (gc k1 (gc aJm (gc bPq (gc aJm (gc bPr gn)))))))
theorem aXq(Ar:i=3)(Aj:i'=3):aA Tp 2 uF (eW a0 a1 a2 b0 b1 b2 i) (.exit 0) (eW a0 a1 a2 b0 b1 b2 i'):=by
 subst Ar;subst Aj;exact aA.fi (gZ c7) [bF] (gc bPl gn)
def Ew(a0 a1 a2 b0 b1 b2:Int):Int:=if jB a0 b0≠0 then jB a0 b0 else if jB a1 b1≠0 then jB a1 b1 else jB a2 b2
theorem bUd(a0 a1 a2 b0 b1 b2:Int):FMM Tp 178 [.arr 0 0 3,.arr 1 0 3] [some (.box 186 [(pI a0),(pI a1),(pI a2)]),some (.box 186 [(pI b0),(pI b1),(pI b2)])] (pI (Ew a0 a1 a2 b0 b1 b2)) [some (.box 186 [(pI a0),(pI a1),(pI a2)]),some (.box 186 [(pI b0),(pI b1),(pI b2)])]:=by
 unfold Ew
 by_cases h0:jB a0 b0=0
 ·rw [if_neg (by simp [h0])]
  by_cases h1:jB a1 b1=0
  ·rw [if_neg (by simp [h1])]
   by_cases h2:jB a2 b2=0
   ·rw [h2]
    exact bUc (.step (vQ rfl h0 rfl) (.step (aDm rfl h1 rfl) (.step (aXp rfl h2 rfl) (.exit (aXq rfl rfl) (by simp)))))
   ·exact aNu (Aq:=2) (.step (vQ rfl h0 rfl) (.step (aDm rfl h1 rfl) (.exit (aXo rfl h2 rfl) (by simp)))) rfl
  ·rw [if_pos h1]
   exact aNu (Aq:=1) (.step (vQ rfl h0 rfl) (.exit (aXn rfl h1 rfl) (by simp))) rfl
 ·rw [if_pos h0]
  exact aNu (Aq:=0) (.exit (aXm rfl h0 rfl) (by simp)) rfl
def bR(k:Int)(r t:List Cel):Int:=Ew (aK k r 0) (aK k r 1) (aK k r 2) (aK k t 0) (aK k t 1) (aK k t 2)
theorem bUe{r t:List Cel}(h0:aN k≤(r.length:Int))(h1:aN k≤(t.length:Int))(Al:r0=(Ew (aK k r 0) (aK k r 1) (aK k r 2) (aK k t 0) (aK k t 1) (aK k t 2))):FV Tp 92 [(pI k),(.p (.sl r.length ((r.map cE).flatten))),(.p (.sl t.length ((t.map cE).flatten)))] base (pI r0) []:=by
 subst Al;have k1:=fk 0 (eC k r h0) rfl;have k2:=fk 0 (eC k t h1) rfl;have k3:=mq [0,1] 2 (bUd (aK k r 0) (aK k r 1) (aK k r 2) (aK k t 0) (aK k t 1) (aK k t 2));exact FV.fi func92 [k1.o,k2.o,k3.o] (gc k3 (gt (0≤(0:Int)∧(0:Int)≤3∧(3:Int)≤3∧3≤maxLen) (by unfold maxLen;omega) (gt (0≤(0:Int)∧(0:Int)≤3∧(3:Int)≤3∧3≤maxLen) (by unfold maxLen;omega) (gc k2 (gc k1 gn)))))
end
section
variable {k r0:Int}{i Aq base:Nat}

noncomputable abbrev uD:Code:=sub (cd Tryz.f102) [1,1,1,0,1,0,0]
theorem lT(k:Int)(r t:List Cel)(h:aN k≤(r.length:Int))(h2:aN k≤(t.length:Int)){base:Nat}:FV Tp 92 [.p (aB k),.p (.sl r.length ((r.map cE).flatten)),.p (.sl t.length ((t.map cE).flatten))] base (pI (bR k r t)) []:=bUe h h2 rfl
def aDj(k:Int)(R:List (List Cel))(i:Nat):Int:=if bR k ((R[i-1]?).getD []) ((R[i]?).getD [])=0 then 5 else 4
def eV(k:Int)(R:List (List Cel))(i:Nat):St:=⟨fr 57 [(1,(.ptr 0 0)),(4,(pI (i:Int)))],[some (.box 26 [(pI k),(.p (.sl R.length (R.map aL)))])]⟩
theorem bTt{R:List (List Cel)}(h0:(within k 0 4)=false):FV Tp 102 [(.p (.agg [(aB k),(.sl R.length (R.map aL))]))] base (pI 1) []:=have k1:=fk 1 (pQ k) rfl;FV.fi func102 [k1.o,bT] (gc (cZ h0) (gc k1 gn))
theorem bTu{R:List (List Cel)}(h0:(within k 0 4)=true)(h1:(200:Int)<(R.length:Int)):FV Tp 102 [(.p (.agg [(aB k),(.sl R.length (R.map aL))]))] base (pI 2) []:=have k1:=fk 1 (pQ k) rfl;FV.fi func102 ([k1.o,bF]++rT 5) (Cy (cN h1) (gc (aX h0) (gc k1 gn)))
section
variable{R:List (List Cel)}(h0:(within k 0 4)=true)(h1:(R.length:Int)≤200)(h2:R.length≤100000)
include h0 h1 h2
theorem bTv(h3:(R.all (Dw))=false):FV Tp 102 [(.p (.agg [(aB k),(.sl R.length (R.map aL))]))] base (pI 2) []:=have k1:=fk 1 (pQ k) rfl;have k2:=fk 1 (xO R h2) rfl;FV.fi func102 [k1.o,bF,bF,bF,bF,k2.o,bF,bF,bT] (gc (cZ h3) (A9 (bC h1) (gc k2 (A1 (bC h1) (gc (aX h0) (gc k1 gn))))))
theorem bTw(h3:(R.all (Dw))=true)(h4:(kW k R)≠0)(Al:r0=(kW k R)):FV Tp 102 [(.p (.agg [(aB k),(.sl R.length (R.map aL))]))] base (pI r0) []:=by
 subst Al;have k1:=fk 1 (pQ k) rfl;have k2:=fk 1 (xO R h2) rfl;exact FV.fi func102 [k1.o,bF,bF,bF,bF,k2.o,bF,bF,bF,.c (pI (kW k R)) [],bT] (gc (fD h4) (gc (fk 1 (aFv k R h2) rfl) (gc (aX h3) (A9 (bC h1) (gc k2 (A1 (bC h1) (gc (aX h0) (gc k1 gn))))))))
theorem bTx(h3:(R.all (Dw))=true)(h4:(kW k R)=0)(Cv:aF Tp 0 uD (eV k R 1) (.exit 1) (eV k R Aq)):FV Tp 102 [(.p (.agg [(aB k),(.sl R.length (R.map aL))]))] base (pI 0) []:=have k1:=fk 1 (pQ k) rfl;have k2:=fk 1 (xO R h2) rfl;FV.fi func102 [k1.o,bF,bF,bF,bF,k2.o,bF,bF,bF,.c (pI (kW k R)) [],bF,Cv.k 4 (gI br [0])] (gc Cv.code (gc (bV h4) (gc (fk 1 (aFv k R h2) rfl) (gc (aX h3) (A9 (bC h1) (gc k2 (A1 (bC h1) (gc (aX h0) (gc k1 gn)))))))))
theorem bTy(h3:(R.all (Dw))=true)(h4:(kW k R)=0)(Cv:aF Tp 0 uD (eV k R 1) .ret (cK (eV k R Aq) [(2,(pI (aDj k R Aq)))]))(Al:r0=(aDj k R Aq)):FV Tp 102 [(.p (.agg [(aB k),(.sl R.length (R.map aL))]))] base (pI r0) []:=by
 subst Al;have k1:=fk 1 (pQ k) rfl;have k2:=fk 1 (xO R h2) rfl;exact FV.fi func102 [k1.o,bF,bF,bF,bF,k2.o,bF,bF,bF,.c (pI (kW k R)) [],bF,Cv.k 4 (gI br [0])] (gc Cv.code (gc (bV h4) (gc (fk 1 (aFv k R h2) rfl) (gc (aX h3) (A9 (bC h1) (gc k2 (A1 (bC h1) (gc (aX h0) (gc k1 gn)))))))))
end
section
variable{R:List (List Cel)}{Ab A2:List Cel}(h0:(i:Int)<(R.length:Int))(h1:inR ((i:Int)-1))(h2:R[((i:Int)-1).toNat]? = some Ab)(h3:0≤((i:Int)-1))(h4:R[i]? = some A2)(h5:aN k≤(Ab.length:Int))(h6:aN k≤(A2.length:Int))
include h0 h1 h2 h3 h4 h5 h6
theorem aXf(h7:(bR k Ab A2)=0):aA Tp 0 uD (eV k R i) .ret (cK (eV k R i) [(2,(pI 5))]):=have k1:=fk 1 (lT k Ab A2 h5 h6) rfl;aA.fi (gI [0,1,3,1,5,52] [0]) [bT,.x (.sl Ab.length ((Ab.map cE).flatten)),.x (.sl A2.length ((A2.map cE).flatten)),k1.o,bT] (gc (dF h7) (gc k1 (gc (atm aL h4) (gc (ixn aL h4) (gt ((R.map aL)[(((i:Int)-1).toNat*1)]? = some (.sl Ab.length ((Ab.map cE).flatten))) (rP (i:=((i:Int)-1).toNat) h2) (gc (rQ (g:=aL) h3 h2) (gc h1 (g0 h0))))))))
theorem aXg(h7:(bR k Ab A2)≠0)(h8:(0:Int)<(bR k Ab A2)):aA Tp 0 uD (eV k R i) .ret (cK (eV k R i) [(2,(pI 4))]):=have k1:=fk 1 (lT k Ab A2 h5 h6) rfl;aA.fi (gI [0,1,3,1,5,52] [0]) [bT,.x (.sl Ab.length ((Ab.map cE).flatten)),.x (.sl A2.length ((A2.map cE).flatten)),k1.o,bF,bT] (gc (cN h8) (gc (bL h7) (gc k1 (gc (atm aL h4) (gc (ixn aL h4) (gt ((R.map aL)[(((i:Int)-1).toNat*1)]? = some (.sl Ab.length ((Ab.map cE).flatten))) (rP (i:=((i:Int)-1).toNat) h2) (gc (rQ (g:=aL) h3 h2) (gc h1 (g0 h0)))))))))
theorem aXh{i':Nat}(h7:(bR k Ab A2)≠0)(h8:(bR k Ab A2)≤0)(h9:co i)(Aj:i'=(i+1)):aA Tp 0 uD (eV k R i) .normal (eV k R i'):=by
 subst Aj;have k1:=fk 1 (lT k Ab A2 h5 h6) rfl;exact aA.fi (gI br [0]) [bT,.x (.sl Ab.length ((Ab.map cE).flatten)),.x (.sl A2.length ((A2.map cE).flatten)),k1.o,bF,bF] (gc h9 (gc (bC h8) (gc (bL h7) (gc k1 (gc (atm aL h4) (gc (ixn aL h4) (gt ((R.map aL)[(((i:Int)-1).toNat*1)]? = some (.sl Ab.length ((Ab.map cE).flatten))) (rP (i:=((i:Int)-1).toNat) h2) (gc (rQ (g:=aL) h3 h2) (gc h1 (g0 h0))))))))))
end
theorem aDk{R:List (List Cel)}(h0:(R.length:Int)≤(i:Int)):aA Tp 0 uD (eV k R i) (.exit 1) (eV k R i):=aA.fi (gI br [0]) [bF] (gc (bC h0) gn)
def sK(k:Int):List (List Cel)→Int
 | a::b::l=>if bR k a b=0 then 5 else if 0<bR k a b then 4 else sK k (b::l)
 | _=>0
def dW(k:Int)(R:List (List Cel)):Int:=if within k 0 4=false then 1 else if 200<R.length∨R.all Dw=false then 2 else if kW k R≠0 then kW k R else sK k R
theorem uE(k:Int):aN k≤((aJ k).length:Int):=by
 unfold aN aJ
 by_cases h0:k=0
 ·subst h0;decide
 ·by_cases h1:k=1
  ·subst h1;decide
  ·by_cases h2:k=2
   ·subst h2;decide
   ·by_cases h3:k=3
    ·subst h3;decide
    ·simp [h0,h1,h2,h3]
theorem aQt{k:Int}{x:List Cel}(h0:Dw x=true)(h:eX k x=true):x.length=(aJ k).length:=by
 have h0:=of_decide_eq_true h0;unfold eX at h
 rw [aBp] at h
 rcases h with h | h
 ·have:=of_decide_eq_true h;omega
 ·have:=eq_of_beq h;omega
theorem bFs{k:Int}{x:List Cel}(h0:Dw x=true)(h:eX k x=true):aN k≤(x.length:Int):=by
 rw [aQt h0 h];exact uE k
theorem aQu{k:Int}{R:List (List Cel)}(h:kW k R≠2):R.all (eX k)=true:=by
 cases q:R.all (eX k)
 ·exact absurd (by unfold kW;rw [if_pos q]) h
 ·rfl
theorem aJj{k:Int}{R:List (List Cel)}(hR:R.length≤200)(hk:∀ x∈R,aN k≤(x.length:Int)):∀ (l:List (List Cel)) (i:Nat),1≤i→R.drop (i-1)=l →
  (sK k l=0∧∃ j,aF Tp 0 uD (eV k R i) (.exit 1) (eV k R j))∨(sK k l≠0∧∃ j,sK k l=aDj k R j∧aF Tp 0 uD (eV k R i) .ret (cK (eV k R j) [(2,(pI (aDj k R j)))]))
 | [],i,hi,hd=>by
  have hl:R.length≤i-1:=List.drop_eq_nil_iff.1 hd;exact .inl ⟨rfl,i,.exit (aDk (by omega)) (by simp)⟩
 | [a],i,hi,hd=>by
  have hl:=congrArg List.length hd;rw [sI,List.length_singleton] at hl
  exact .inl ⟨rfl,i,.exit (aDk (by omega)) (by simp)⟩
 | a::b::l,i,hi,hd=>by
  have hl:=congrArg List.length hd;rw [sI,eT,eT] at hl
  have ha:R[i-1]? = some a:=by
   have:=congrArg (fun l:List (List Cel)=>l[0]?) hd
   simpa using this
  have hb:R[i]? = some b:=by
   have:=congrArg (fun l:List (List Cel)=>l[1]?) hd
   rw [List.getElem?_drop] at this
   rw [show i-1+1=i by omega] at this
   simpa using this
  have Ey:R[((i:Int)-1).toNat]? = some a:=by rw [show ((i:Int)-1).toNat=i-1 by omega];exact ha
  have ka:=hk a (Ch ha);have kb:=hk b (Ch hb);have Fl:R.drop (i+1-1)=b::l:=by
   have:=congrArg List.tail hd;rw [List.tail_drop] at this
   rw [show i+1-1=i-1+1 by omega];exact this
  have hat:aDj k R i=if bR k a b=0 then 5 else 4:=by unfold aDj;rw [ha,hb];rfl
  unfold sK
  by_cases h0:bR k a b=0
  ·rw [if_pos h0]
   rw [if_pos h0] at hat
   refine .inr ⟨by decide,i,hat.symm,?_⟩
   rw [hat];exact .exit (aXf (by omega) (by show _∧_;omega) Ey (by omega) hb ka kb h0) (by simp)
  ·rw [if_neg h0]
   by_cases h1:0<bR k a b
   ·rw [if_pos h1]
    rw [if_neg h0] at hat
    refine .inr ⟨by decide,i,hat.symm,?_⟩
    rw [hat];exact .exit (aXg (by omega) (by show _∧_;omega) Ey (by omega) hb ka kb h0 h1) (by simp)
   ·rw [if_neg h1]
    have hs:aA Tp 0 uD (eV k R i) .normal (eV k R (i+1)):=aXh (by omega) (by show _∧_;omega) Ey (by omega) hb ka kb h0 (by omega) (aT (by omega)) rfl
    rcases aJj hR hk (b::l) (i+1) (by omega) Fl with ⟨q,j,L⟩ | ⟨q,j,q2,L⟩
    ·exact .inl ⟨q,j,.step hs L⟩
    ·exact .inr ⟨q,j,q2,.step hs L⟩
theorem iH(k:Int)(R:List (List Cel)){base:Nat}:FV Tp 102 [.p (.agg [aB k,bY R])] base (pI (dW k R)) []:=by
 unfold dW;cases hk:within k 0 4
 ·rw [if_pos rfl];exact bTt hk
 ·rw [if_neg (by simp)]
  by_cases hl:200<R.length
  ·rw [if_pos (.inl hl)];exact bTu hk (by omega)
  ·cases hn:R.all Dw
   ·rw [if_pos (.inr rfl)];exact bTv hk (by omega) (by omega) hn
   ·rw [if_neg (by simp [hl])]
    by_cases hc:kW k R=0
    ·rw [if_neg (by simp [hc])]
     have hf:=aQu (k:=k) (R:=R) (by rw [hc];decide)
     rw [iD] at hf
     have Lc:=hn;rw [iD] at Lc
     rcases aJj (k:=k) (R:=R) (by omega) (fun x hx=>bFs (Lc x hx) (hf x hx)) R 1 (by omega) rfl with ⟨q,j,L⟩ | ⟨q,j,q2,L⟩
     ·rw [q];exact bTx hk (by omega) (by omega) hn hc L
     ·rw [q2];exact bTy hk (by omega) (by omega) hn hc L rfl
    ·rw [if_pos hc];exact bTw hk (by omega) (by omega) hn hc rfl
end
end KV
end Go.Proofs
section
namespace Go.Proofs
open Go.RowKit
namespace KV
open Tryz
theorem aRg{w:World}{b o:Nat}{v:Value}(h:w.cell? ⟨b,o,none⟩=some v):b<w.heap.size:=by
 unfold World.cell? at h
 cases hb:w.heap[b]? with
 | none=>simp [hb] at h
 | some x=>exact (lR.1 hb).1
theorem aJt{F:Nat→Prop}{w:World}{l:List UInt8}{u:Value}(h:cQ F w (aD l) u):u = .string ⟨l.toArray⟩:=by cases h;rfl
theorem bMu(l:List (List UInt8))(sep:List UInt8)(h1:l.length≤140737488355328)(h2:(Lib.join l sep).length≤140737488355328){base:Nat}:FV Tp 50 [.p (.sl l.length (l.map aD)),.p (aD sep)] base (.p (aD (Lib.join l sep))) []:=FV.ofc rfl fun C w us hus hM=>by
 cases hus with | cons _ u _ k h hr =>
 cases hr with | cons _ u2 _ k2 Mr Dp =>
 cases Dp;cases Mr with | p _ _ Mr =>
 obtain rfl:=aJt Mr;cases h with | p _ _ h =>
 cases h with | sl _ _ p cap vs q1 q2 q3 q4 q5 =>
 by_cases h0:l=[]
 ·subst h0
  refine (Tryz.strings_Join_none p cap ⟨sep.toArray⟩ w).mono ?_;rintro e w' ⟨rfl,rfl⟩;exact ⟨_,rfl,Below.refl _ _,.p _ _ (.v _)⟩
 ·have hl:0<l.length:=List.length_pos_iff.2 h0
  obtain ⟨b,o,hp,_,P2⟩:=q3 0 (by simpa using hl)
  subst hp;have hlen:l.length=(l.map fun x=>(⟨x.toArray⟩:ByteArray)).length:=by simp
  have ex:(l.map fun x=>(⟨x.toArray⟩:ByteArray)).map (·.data.toList)=l:=by simp [zW,Function.comp_def]
  have:=Tryz.strings_Join b o cap (l.map fun x=>(⟨x.toArray⟩:ByteArray)) ⟨sep.toArray⟩ w (fun j x hx=>by
    rw [tX] at hx
    obtain ⟨y,hy,rfl⟩:=C9.1 hx;have hj:=(Cf.1 hy).1;obtain ⟨b',o',hp,_,hc⟩:=q3 j (by simpa using hj)
    cases hp;rw [hc];have hr:=q4 j (by simpa using hj)
    rw [gS] at hr
    have e:l[j]=y:=(Cf.1 hy).2;rw [e] at hr
    exact congrArg some (aJt hr)) (aRg P2) (by simpa using h1) (by simpa using q1) (by rw [ex];exact h2)
  rw [ex,mR] at this
  refine this.mono ?_;rintro e w' ⟨rfl,hb⟩;exact ⟨_,rfl,hb,.p _ _ (.v _)⟩
end KV
end Go.Proofs
end
namespace Go.Proofs
namespace KV
open Tryz
section
variable {k Bm:Int}{i j j' Aq base:Nat}

noncomputable abbrev oK:Code:=pS (cd Tryz.f28) 5 [0,1,0,0]
noncomputable abbrev aDi:Code:=pS (cd Tryz.f28) 5 [0,1,0,0,1,1,0,0,1,1,0,1,0,0]
theorem bPg:0≤(0:Int)∧(0:Int)<5:=by first | decide | simp
theorem bPh:0≤(1:Int)∧(1:Int)<5:=by first | decide | simp
theorem bPi:0≤(2:Int)∧(2:Int)<5:=by first | decide | simp
theorem bPj:0≤(3:Int)∧(3:Int)<5:=by first | decide | simp
theorem bPk:0≤(4:Int)∧(4:Int)<5:=by first | decide | simp
def stE(s:List UInt8):List PV:=[aD s]
theorem jG:∀ l:List (List UInt8),(l.map stE).flatten=l.map aD
 | []=>rfl
 | s::l=>by rw [fV,vG,jG l];rfl
theorem bFr(l:List (List UInt8))(sep:List UInt8)(h1:l.length≤140737488355328)(h2:(Lib.join l sep).length≤140737488355328){base:Nat}:FV Tp 50 [.p (.sl l.length ((l.map stE).flatten)),.p (aD sep)] base (.p (aD (Lib.join l sep))) []:=by rw [jG];exact bMu l sep h1 h2
theorem bTi{l:List (List UInt8)}(h0:l.length≤140737488355328)(h1:(Lib.join l ([32]:List UInt8)).length≤140737488355328)(h2:(Lib.join l ([32]:List UInt8)).length+([10]:List UInt8).length≤4611686018427387904):FV Tp 118 [(.p (.sl l.length ((l.map stE).flatten)))] base (.p (aD ((Lib.join l ([32]:List UInt8))++([10]:List UInt8)))) []:=have k1:=fk 0 (bFr l ([32]:List UInt8) h0 h1) rfl;FV.fi func118 [k1.o] (gc h2 (gc k1 gn))
def lnM(l:List (List UInt8)):List UInt8:=Lib.join l [32]++[10]
theorem eB(l:List (List UInt8))(h1:l.length≤1000000)(h2:(Lib.join l [32]).length≤1000000){base:Nat}:FV Tp 118 [.p (.sl l.length ((l.map stE).flatten))] base (.p (aD (lnM l))) []:=bTi (by omega) (by omega) (by simp;omega)
def cI(k:Int)(R:List (List Cel))(i:Nat)(o:List UInt8):St:=⟨fr 81 [(2,(.p (aD ([]:List UInt8)))),(3,(pI 0)),(5,(.p (aD o))),(6,(.p (bK (aJ k)))),(8,(.ptr 0 0)),(38,(.p (.sl R.length (R.map aL)))),(39,(pI (R.length:Int))),(40,(pI (i:Int)))],[some (.box 214 [(.fn 224 [] [(.rp [(PV.fn 188 [] [])] 0)]),(.fn 225 [] [(.rp [(PV.fn 120 [] [])] 0)]),(.fn 226 [] [(.rp [(aB 999999)] 0)]),(.fn 224 [] [(.rp [(PV.fn 39 [] [])] 0)]),(.fn 225 [] [(.rp [(PV.fn 189 [] [])] 0)]),(.fn 226 [] [(.rp [(aB 360000)] 0)]),(.fn 227 [] [(.rp [(PV.fn 191 [] [])] 0)]),(.fn 228 [] []),(.fn 229 [] [(.rp [(PV.fn 191 [] [])] 0)]),(.fn 227 [] [(.rp [(PV.fn 192 [] [])] 0)]),(.fn 228 [] []),(.fn 229 [] [(.rp [(PV.fn 192 [] [])] 0)])])]⟩
theorem bTj{R:List (List Cel)}{r0:Int}(h0:(dW k R)≠0)(Al:r0=(dW k R)):FV Tp 28 [(.p (.agg [(aB k),(.sl R.length (R.map aL))]))] base (.tup [(.p (aD ([]:List UInt8))),(pI r0)]) []:=by
 subst Al;exact FV.fi func28 [.c (pI (dW k R)) [],bT] (gc (fD h0) (gc (fk 1 (iH k R) rfl) gn))
section
variable{R:List (List Cel)}{Ak:List UInt8}(h0:(dW k R)=0)(Cu:k=0)(h2:inR (R.length:Int))(h3:([([107,108,105,115,116,101,114]:List UInt8),([115,116,97,114,116,115]:List UInt8),(Lib.itoa (R.length:Int))]:List (List UInt8)).length≤1000000)(h4:(Lib.join ([([107,108,105,115,116,101,114]:List UInt8),([115,116,97,114,116,115]:List UInt8),(Lib.itoa (R.length:Int))]:List (List UInt8)) [32]).length≤1000000)(Cv:aF Tp 0 oK (cI k R 0 (lnM ([([107,108,105,115,116,101,114]:List UInt8),([115,116,97,114,116,115]:List UInt8),(Lib.itoa (R.length:Int))]:List (List UInt8)))) (.exit 0) (cI k R Aq Ak))
include h0 Cu h2 h3 h4 Cv
theorem bTk(h6:Ak.length≤65536)(h7:inR (bJ Ak))(h8:([([115,117,109]:List UInt8),(Lib.itoa (bJ Ak))]:List (List UInt8)).length≤1000000)(h9:(Lib.join ([([115,117,109]:List UInt8),(Lib.itoa (bJ Ak))]:List (List UInt8)) [32]).length≤1000000)(Ba:Ak.length+(lnM ([([115,117,109]:List UInt8),(Lib.itoa (bJ Ak))]:List (List UInt8))).length≤4611686018427387904):FV Tp 28 [(.p (.agg [(aB k),(.sl R.length (R.map aL))]))] base (.tup [(.p (aD (Ak++(lnM ([([115,117,109]:List UInt8),(Lib.itoa (bJ Ak))]:List (List UInt8)))))),(pI 0)]) []:=by
 subst Cu;have k1:=fk 1 (iH 0 R) rfl;have k2:=fk 1 (jW) rfl;have k3:=fk 10 (dD (R.length:Int) h2) rfl;have k4:=fk 19 (eY 0) rfl;have k5:=fk 19 (eK) rfl;have k6:=fk 1 (fO Ak h6) rfl;have k7:=fk 1 (dD (bJ Ak) h7) rfl;exact FV.fi func28 [k1.o,bF,k2.o,k3.o,.c (.p (aD (lnM ([([107,108,105,115,116,101,114]:List UInt8),([115,116,97,114,116,115]:List UInt8),(Lib.itoa (R.length:Int))]:List (List UInt8))))) [(18,.dead)],k4.o,k5.o,.k 4 (gI av [19]) (.exit 0) (cI 0 R Aq Ak),k6.o,k7.o,.c (.p (aD (lnM ([([115,117,109]:List UInt8),(Lib.itoa (bJ Ak))]:List (List UInt8))))) [(1,.dead)]] (gc Ba (gt (FC Tp 118 [(.own 1)] [(1,(.row 9 2 [(aD ([115,117,109]:List UInt8)),(aD (Lib.itoa (bJ Ak)))]))] 2 (.p (aD (lnM ([([115,117,109]:List UInt8),(Lib.itoa (bJ Ak))]:List (List UInt8))))) [(1,.dead)]) (FV.close (ids:=[1]) (Am:=[(.p (.sl 2 [(aD ([115,117,109]:List UInt8)),(aD (Lib.itoa (bJ Ak)))]))]) (eB ([([115,117,109]:List UInt8),(Lib.itoa (bJ Ak))]:List (List UInt8)) h8 h9) (by kernel_rfl)) (gc k7 (gc k6 (gc Cv.code (gc k5 (gc k4 (gt (FC Tp 118 [(.own 18)] [(18,(.row 9 3 [(aD ([107,108,105,115,116,101,114]:List UInt8)),(aD ([115,116,97,114,116,115]:List UInt8)),(aD (Lib.itoa (R.length:Int)))]))] 19 (.p (aD (lnM ([([107,108,105,115,116,101,114]:List UInt8),([115,116,97,114,116,115]:List UInt8),(Lib.itoa (R.length:Int))]:List (List UInt8))))) [(18,.dead)]) (FV.close (ids:=[18]) (Am:=[(.p (.sl 3 [(aD ([107,108,105,115,116,101,114]:List UInt8)),(aD ([115,116,97,114,116,115]:List UInt8)),(aD (Lib.itoa (R.length:Int)))]))]) (eB ([([107,108,105,115,116,101,114]:List UInt8),([115,116,97,114,116,115]:List UInt8),(Lib.itoa (R.length:Int))]:List (List UInt8)) h3 h4) (by kernel_rfl)) (gc k3 (gc bPg (gc k2 (gc (bV h0) (gc k1 gn)))))))))))))
theorem bTl(h6:65536<Ak.length)(h7:inR 0)(h8:([([115,117,109]:List UInt8),(Lib.itoa 0)]:List (List UInt8)).length≤1000000)(h9:(Lib.join ([([115,117,109]:List UInt8),(Lib.itoa 0)]:List (List UInt8)) [32]).length≤1000000)(Ba:Ak.length+(lnM ([([115,117,109]:List UInt8),(Lib.itoa 0)]:List (List UInt8))).length≤4611686018427387904):FV Tp 28 [(.p (.agg [(aB k),(.sl R.length (R.map aL))]))] base (.tup [(.p (aD (Ak++(lnM ([([115,117,109]:List UInt8),(Lib.itoa 0)]:List (List UInt8)))))),(pI 0)]) []:=by
 subst Cu;have k1:=fk 1 (iH 0 R) rfl;have k2:=fk 1 (jW) rfl;have k3:=fk 10 (dD (R.length:Int) h2) rfl;have k4:=fk 19 (eY 0) rfl;have k5:=fk 19 (eK) rfl;have k6:=fk 1 (pP Ak h6) rfl;have k7:=fk 1 (dD 0 h7) rfl;exact FV.fi func28 [k1.o,bF,k2.o,k3.o,.c (.p (aD (lnM ([([107,108,105,115,116,101,114]:List UInt8),([115,116,97,114,116,115]:List UInt8),(Lib.itoa (R.length:Int))]:List (List UInt8))))) [(18,.dead)],k4.o,k5.o,.k 4 (gI av [19]) (.exit 0) (cI 0 R Aq Ak),k6.o,k7.o,.c (.p (aD (lnM ([([115,117,109]:List UInt8),(Lib.itoa 0)]:List (List UInt8))))) [(1,.dead)]] (gc Ba (gt (FC Tp 118 [(.own 1)] [(1,(.row 9 2 [(aD ([115,117,109]:List UInt8)),(aD (Lib.itoa 0))]))] 2 (.p (aD (lnM ([([115,117,109]:List UInt8),(Lib.itoa 0)]:List (List UInt8))))) [(1,.dead)]) (FV.close (ids:=[1]) (Am:=[(.p (.sl 2 [(aD ([115,117,109]:List UInt8)),(aD (Lib.itoa 0))]))]) (eB ([([115,117,109]:List UInt8),(Lib.itoa 0)]:List (List UInt8)) h8 h9) (by kernel_rfl)) (gc k7 (gc k6 (gc Cv.code (gc k5 (gc k4 (gt (FC Tp 118 [(.own 18)] [(18,(.row 9 3 [(aD ([107,108,105,115,116,101,114]:List UInt8)),(aD ([115,116,97,114,116,115]:List UInt8)),(aD (Lib.itoa (R.length:Int)))]))] 19 (.p (aD (lnM ([([107,108,105,115,116,101,114]:List UInt8),([115,116,97,114,116,115]:List UInt8),(Lib.itoa (R.length:Int))]:List (List UInt8))))) [(18,.dead)]) (FV.close (ids:=[18]) (Am:=[(.p (.sl 3 [(aD ([107,108,105,115,116,101,114]:List UInt8)),(aD ([115,116,97,114,116,115]:List UInt8)),(aD (Lib.itoa (R.length:Int)))]))]) (eB ([([107,108,105,115,116,101,114]:List UInt8),([115,116,97,114,116,115]:List UInt8),(Lib.itoa (R.length:Int))]:List (List UInt8)) h3 h4) (by kernel_rfl)) (gc k3 (gc bPg (gc k2 (gc (bV h0) (gc k1 gn)))))))))))))
end
section
variable{R:List (List Cel)}{Ak:List UInt8}(h0:(dW k R)=0)(Cu:k=1)(h2:inR (R.length:Int))(h3:([([107,108,105,115,116,101,114]:List UInt8),([112,97,115,115,101,115]:List UInt8),(Lib.itoa (R.length:Int))]:List (List UInt8)).length≤1000000)(h4:(Lib.join ([([107,108,105,115,116,101,114]:List UInt8),([112,97,115,115,101,115]:List UInt8),(Lib.itoa (R.length:Int))]:List (List UInt8)) [32]).length≤1000000)(Cv:aF Tp 0 oK (cI k R 0 (lnM ([([107,108,105,115,116,101,114]:List UInt8),([112,97,115,115,101,115]:List UInt8),(Lib.itoa (R.length:Int))]:List (List UInt8)))) (.exit 0) (cI k R Aq Ak))
include h0 Cu h2 h3 h4 Cv
theorem bTm(h6:Ak.length≤65536)(h7:inR (bJ Ak))(h8:([([115,117,109]:List UInt8),(Lib.itoa (bJ Ak))]:List (List UInt8)).length≤1000000)(h9:(Lib.join ([([115,117,109]:List UInt8),(Lib.itoa (bJ Ak))]:List (List UInt8)) [32]).length≤1000000)(Ba:Ak.length+(lnM ([([115,117,109]:List UInt8),(Lib.itoa (bJ Ak))]:List (List UInt8))).length≤4611686018427387904):FV Tp 28 [(.p (.agg [(aB k),(.sl R.length (R.map aL))]))] base (.tup [(.p (aD (Ak++(lnM ([([115,117,109]:List UInt8),(Lib.itoa (bJ Ak))]:List (List UInt8)))))),(pI 0)]) []:=by
 subst Cu;have k1:=fk 1 (iH 1 R) rfl;have k2:=fk 1 (jW) rfl;have k3:=fk 10 (dD (R.length:Int) h2) rfl;have k4:=fk 19 (eY 1) rfl;have k5:=fk 19 (eK) rfl;have k6:=fk 1 (fO Ak h6) rfl;have k7:=fk 1 (dD (bJ Ak) h7) rfl;exact FV.fi func28 [k1.o,bF,k2.o,k3.o,.c (.p (aD (lnM ([([107,108,105,115,116,101,114]:List UInt8),([112,97,115,115,101,115]:List UInt8),(Lib.itoa (R.length:Int))]:List (List UInt8))))) [(18,.dead)],k4.o,k5.o,.k 4 (gI av [19]) (.exit 0) (cI 1 R Aq Ak),k6.o,k7.o,.c (.p (aD (lnM ([([115,117,109]:List UInt8),(Lib.itoa (bJ Ak))]:List (List UInt8))))) [(1,.dead)]] (gc Ba (gt (FC Tp 118 [(.own 1)] [(1,(.row 9 2 [(aD ([115,117,109]:List UInt8)),(aD (Lib.itoa (bJ Ak)))]))] 2 (.p (aD (lnM ([([115,117,109]:List UInt8),(Lib.itoa (bJ Ak))]:List (List UInt8))))) [(1,.dead)]) (FV.close (ids:=[1]) (Am:=[(.p (.sl 2 [(aD ([115,117,109]:List UInt8)),(aD (Lib.itoa (bJ Ak)))]))]) (eB ([([115,117,109]:List UInt8),(Lib.itoa (bJ Ak))]:List (List UInt8)) h8 h9) (by kernel_rfl)) (gc k7 (gc k6 (gc Cv.code (gc k5 (gc k4 (gt (FC Tp 118 [(.own 18)] [(18,(.row 9 3 [(aD ([107,108,105,115,116,101,114]:List UInt8)),(aD ([112,97,115,115,101,115]:List UInt8)),(aD (Lib.itoa (R.length:Int)))]))] 19 (.p (aD (lnM ([([107,108,105,115,116,101,114]:List UInt8),([112,97,115,115,101,115]:List UInt8),(Lib.itoa (R.length:Int))]:List (List UInt8))))) [(18,.dead)]) (FV.close (ids:=[18]) (Am:=[(.p (.sl 3 [(aD ([107,108,105,115,116,101,114]:List UInt8)),(aD ([112,97,115,115,101,115]:List UInt8)),(aD (Lib.itoa (R.length:Int)))]))]) (eB ([([107,108,105,115,116,101,114]:List UInt8),([112,97,115,115,101,115]:List UInt8),(Lib.itoa (R.length:Int))]:List (List UInt8)) h3 h4) (by kernel_rfl)) (gc k3 (gc bPh (gc k2 (gc (bV h0) (gc k1 gn)))))))))))))
theorem bTn(h6:65536<Ak.length)(h7:inR 0)(h8:([([115,117,109]:List UInt8),(Lib.itoa 0)]:List (List UInt8)).length≤1000000)(h9:(Lib.join ([([115,117,109]:List UInt8),(Lib.itoa 0)]:List (List UInt8)) [32]).length≤1000000)(Ba:Ak.length+(lnM ([([115,117,109]:List UInt8),(Lib.itoa 0)]:List (List UInt8))).length≤4611686018427387904):FV Tp 28 [(.p (.agg [(aB k),(.sl R.length (R.map aL))]))] base (.tup [(.p (aD (Ak++(lnM ([([115,117,109]:List UInt8),(Lib.itoa 0)]:List (List UInt8)))))),(pI 0)]) []:=by
 subst Cu;have k1:=fk 1 (iH 1 R) rfl;have k2:=fk 1 (jW) rfl;have k3:=fk 10 (dD (R.length:Int) h2) rfl;have k4:=fk 19 (eY 1) rfl;have k5:=fk 19 (eK) rfl;have k6:=fk 1 (pP Ak h6) rfl;have k7:=fk 1 (dD 0 h7) rfl;exact FV.fi func28 [k1.o,bF,k2.o,k3.o,.c (.p (aD (lnM ([([107,108,105,115,116,101,114]:List UInt8),([112,97,115,115,101,115]:List UInt8),(Lib.itoa (R.length:Int))]:List (List UInt8))))) [(18,.dead)],k4.o,k5.o,.k 4 (gI av [19]) (.exit 0) (cI 1 R Aq Ak),k6.o,k7.o,.c (.p (aD (lnM ([([115,117,109]:List UInt8),(Lib.itoa 0)]:List (List UInt8))))) [(1,.dead)]] (gc Ba (gt (FC Tp 118 [(.own 1)] [(1,(.row 9 2 [(aD ([115,117,109]:List UInt8)),(aD (Lib.itoa 0))]))] 2 (.p (aD (lnM ([([115,117,109]:List UInt8),(Lib.itoa 0)]:List (List UInt8))))) [(1,.dead)]) (FV.close (ids:=[1]) (Am:=[(.p (.sl 2 [(aD ([115,117,109]:List UInt8)),(aD (Lib.itoa 0))]))]) (eB ([([115,117,109]:List UInt8),(Lib.itoa 0)]:List (List UInt8)) h8 h9) (by kernel_rfl)) (gc k7 (gc k6 (gc Cv.code (gc k5 (gc k4 (gt (FC Tp 118 [(.own 18)] [(18,(.row 9 3 [(aD ([107,108,105,115,116,101,114]:List UInt8)),(aD ([112,97,115,115,101,115]:List UInt8)),(aD (Lib.itoa (R.length:Int)))]))] 19 (.p (aD (lnM ([([107,108,105,115,116,101,114]:List UInt8),([112,97,115,115,101,115]:List UInt8),(Lib.itoa (R.length:Int))]:List (List UInt8))))) [(18,.dead)]) (FV.close (ids:=[18]) (Am:=[(.p (.sl 3 [(aD ([107,108,105,115,116,101,114]:List UInt8)),(aD ([112,97,115,115,101,115]:List UInt8)),(aD (Lib.itoa (R.length:Int)))]))]) (eB ([([107,108,105,115,116,101,114]:List UInt8),([112,97,115,115,101,115]:List UInt8),(Lib.itoa (R.length:Int))]:List (List UInt8)) h3 h4) (by kernel_rfl)) (gc k3 (gc bPh (gc k2 (gc (bV h0) (gc k1 gn)))))))))))))
end
section
variable{R:List (List Cel)}{Ak:List UInt8}(h0:(dW k R)=0)(Cu:k=2)(h2:inR (R.length:Int))(h3:([([107,108,105,115,116,101,114]:List UInt8),([116,97,114,103,101,116,115]:List UInt8),(Lib.itoa (R.length:Int))]:List (List UInt8)).length≤1000000)(h4:(Lib.join ([([107,108,105,115,116,101,114]:List UInt8),([116,97,114,103,101,116,115]:List UInt8),(Lib.itoa (R.length:Int))]:List (List UInt8)) [32]).length≤1000000)(Cv:aF Tp 0 oK (cI k R 0 (lnM ([([107,108,105,115,116,101,114]:List UInt8),([116,97,114,103,101,116,115]:List UInt8),(Lib.itoa (R.length:Int))]:List (List UInt8)))) (.exit 0) (cI k R Aq Ak))
include h0 Cu h2 h3 h4 Cv
theorem bTo(h6:Ak.length≤65536)(h7:inR (bJ Ak))(h8:([([115,117,109]:List UInt8),(Lib.itoa (bJ Ak))]:List (List UInt8)).length≤1000000)(h9:(Lib.join ([([115,117,109]:List UInt8),(Lib.itoa (bJ Ak))]:List (List UInt8)) [32]).length≤1000000)(Ba:Ak.length+(lnM ([([115,117,109]:List UInt8),(Lib.itoa (bJ Ak))]:List (List UInt8))).length≤4611686018427387904):FV Tp 28 [(.p (.agg [(aB k),(.sl R.length (R.map aL))]))] base (.tup [(.p (aD (Ak++(lnM ([([115,117,109]:List UInt8),(Lib.itoa (bJ Ak))]:List (List UInt8)))))),(pI 0)]) []:=by
 subst Cu;have k1:=fk 1 (iH 2 R) rfl;have k2:=fk 1 (jW) rfl;have k3:=fk 10 (dD (R.length:Int) h2) rfl;have k4:=fk 19 (eY 2) rfl;have k5:=fk 19 (eK) rfl;have k6:=fk 1 (fO Ak h6) rfl;have k7:=fk 1 (dD (bJ Ak) h7) rfl;exact FV.fi func28 [k1.o,bF,k2.o,k3.o,.c (.p (aD (lnM ([([107,108,105,115,116,101,114]:List UInt8),([116,97,114,103,101,116,115]:List UInt8),(Lib.itoa (R.length:Int))]:List (List UInt8))))) [(18,.dead)],k4.o,k5.o,.k 4 (gI av [19]) (.exit 0) (cI 2 R Aq Ak),k6.o,k7.o,.c (.p (aD (lnM ([([115,117,109]:List UInt8),(Lib.itoa (bJ Ak))]:List (List UInt8))))) [(1,.dead)]] (gc Ba (gt (FC Tp 118 [(.own 1)] [(1,(.row 9 2 [(aD ([115,117,109]:List UInt8)),(aD (Lib.itoa (bJ Ak)))]))] 2 (.p (aD (lnM ([([115,117,109]:List UInt8),(Lib.itoa (bJ Ak))]:List (List UInt8))))) [(1,.dead)]) (FV.close (ids:=[1]) (Am:=[(.p (.sl 2 [(aD ([115,117,109]:List UInt8)),(aD (Lib.itoa (bJ Ak)))]))]) (eB ([([115,117,109]:List UInt8),(Lib.itoa (bJ Ak))]:List (List UInt8)) h8 h9) (by kernel_rfl)) (gc k7 (gc k6 (gc Cv.code (gc k5 (gc k4 (gt (FC Tp 118 [(.own 18)] [(18,(.row 9 3 [(aD ([107,108,105,115,116,101,114]:List UInt8)),(aD ([116,97,114,103,101,116,115]:List UInt8)),(aD (Lib.itoa (R.length:Int)))]))] 19 (.p (aD (lnM ([([107,108,105,115,116,101,114]:List UInt8),([116,97,114,103,101,116,115]:List UInt8),(Lib.itoa (R.length:Int))]:List (List UInt8))))) [(18,.dead)]) (FV.close (ids:=[18]) (Am:=[(.p (.sl 3 [(aD ([107,108,105,115,116,101,114]:List UInt8)),(aD ([116,97,114,103,101,116,115]:List UInt8)),(aD (Lib.itoa (R.length:Int)))]))]) (eB ([([107,108,105,115,116,101,114]:List UInt8),([116,97,114,103,101,116,115]:List UInt8),(Lib.itoa (R.length:Int))]:List (List UInt8)) h3 h4) (by kernel_rfl)) (gc k3 (gc bPi (gc k2 (gc (bV h0) (gc k1 gn)))))))))))))
theorem bTp(h6:65536<Ak.length)(h7:inR 0)(h8:([([115,117,109]:List UInt8),(Lib.itoa 0)]:List (List UInt8)).length≤1000000)(h9:(Lib.join ([([115,117,109]:List UInt8),(Lib.itoa 0)]:List (List UInt8)) [32]).length≤1000000)(Ba:Ak.length+(lnM ([([115,117,109]:List UInt8),(Lib.itoa 0)]:List (List UInt8))).length≤4611686018427387904):FV Tp 28 [(.p (.agg [(aB k),(.sl R.length (R.map aL))]))] base (.tup [(.p (aD (Ak++(lnM ([([115,117,109]:List UInt8),(Lib.itoa 0)]:List (List UInt8)))))),(pI 0)]) []:=by
 subst Cu;have k1:=fk 1 (iH 2 R) rfl;have k2:=fk 1 (jW) rfl;have k3:=fk 10 (dD (R.length:Int) h2) rfl;have k4:=fk 19 (eY 2) rfl;have k5:=fk 19 (eK) rfl;have k6:=fk 1 (pP Ak h6) rfl;have k7:=fk 1 (dD 0 h7) rfl;exact FV.fi func28 [k1.o,bF,k2.o,k3.o,.c (.p (aD (lnM ([([107,108,105,115,116,101,114]:List UInt8),([116,97,114,103,101,116,115]:List UInt8),(Lib.itoa (R.length:Int))]:List (List UInt8))))) [(18,.dead)],k4.o,k5.o,.k 4 (gI av [19]) (.exit 0) (cI 2 R Aq Ak),k6.o,k7.o,.c (.p (aD (lnM ([([115,117,109]:List UInt8),(Lib.itoa 0)]:List (List UInt8))))) [(1,.dead)]] (gc Ba (gt (FC Tp 118 [(.own 1)] [(1,(.row 9 2 [(aD ([115,117,109]:List UInt8)),(aD (Lib.itoa 0))]))] 2 (.p (aD (lnM ([([115,117,109]:List UInt8),(Lib.itoa 0)]:List (List UInt8))))) [(1,.dead)]) (FV.close (ids:=[1]) (Am:=[(.p (.sl 2 [(aD ([115,117,109]:List UInt8)),(aD (Lib.itoa 0))]))]) (eB ([([115,117,109]:List UInt8),(Lib.itoa 0)]:List (List UInt8)) h8 h9) (by kernel_rfl)) (gc k7 (gc k6 (gc Cv.code (gc k5 (gc k4 (gt (FC Tp 118 [(.own 18)] [(18,(.row 9 3 [(aD ([107,108,105,115,116,101,114]:List UInt8)),(aD ([116,97,114,103,101,116,115]:List UInt8)),(aD (Lib.itoa (R.length:Int)))]))] 19 (.p (aD (lnM ([([107,108,105,115,116,101,114]:List UInt8),([116,97,114,103,101,116,115]:List UInt8),(Lib.itoa (R.length:Int))]:List (List UInt8))))) [(18,.dead)]) (FV.close (ids:=[18]) (Am:=[(.p (.sl 3 [(aD ([107,108,105,115,116,101,114]:List UInt8)),(aD ([116,97,114,103,101,116,115]:List UInt8)),(aD (Lib.itoa (R.length:Int)))]))]) (eB ([([107,108,105,115,116,101,114]:List UInt8),([116,97,114,103,101,116,115]:List UInt8),(Lib.itoa (R.length:Int))]:List (List UInt8)) h3 h4) (by kernel_rfl)) (gc k3 (gc bPi (gc k2 (gc (bV h0) (gc k1 gn)))))))))))))
end
section
variable{R:List (List Cel)}{Ak:List UInt8}(h0:(dW k R)=0)(Cu:k=3)(h2:inR (R.length:Int))(h3:([([107,108,105,115,116,101,114]:List UInt8),([106,117,100,103,101,109,101,110,116,115]:List UInt8),(Lib.itoa (R.length:Int))]:List (List UInt8)).length≤1000000)(h4:(Lib.join ([([107,108,105,115,116,101,114]:List UInt8),([106,117,100,103,101,109,101,110,116,115]:List UInt8),(Lib.itoa (R.length:Int))]:List (List UInt8)) [32]).length≤1000000)(Cv:aF Tp 0 oK (cI k R 0 (lnM ([([107,108,105,115,116,101,114]:List UInt8),([106,117,100,103,101,109,101,110,116,115]:List UInt8),(Lib.itoa (R.length:Int))]:List (List UInt8)))) (.exit 0) (cI k R Aq Ak))
include h0 Cu h2 h3 h4 Cv
theorem bTq(h6:Ak.length≤65536)(h7:inR (bJ Ak))(h8:([([115,117,109]:List UInt8),(Lib.itoa (bJ Ak))]:List (List UInt8)).length≤1000000)(h9:(Lib.join ([([115,117,109]:List UInt8),(Lib.itoa (bJ Ak))]:List (List UInt8)) [32]).length≤1000000)(Ba:Ak.length+(lnM ([([115,117,109]:List UInt8),(Lib.itoa (bJ Ak))]:List (List UInt8))).length≤4611686018427387904):FV Tp 28 [(.p (.agg [(aB k),(.sl R.length (R.map aL))]))] base (.tup [(.p (aD (Ak++(lnM ([([115,117,109]:List UInt8),(Lib.itoa (bJ Ak))]:List (List UInt8)))))),(pI 0)]) []:=by
 subst Cu;have k1:=fk 1 (iH 3 R) rfl;have k2:=fk 1 (jW) rfl;have k3:=fk 10 (dD (R.length:Int) h2) rfl;have k4:=fk 19 (eY 3) rfl;have k5:=fk 19 (eK) rfl;have k6:=fk 1 (fO Ak h6) rfl;have k7:=fk 1 (dD (bJ Ak) h7) rfl;exact FV.fi func28 [k1.o,bF,k2.o,k3.o,.c (.p (aD (lnM ([([107,108,105,115,116,101,114]:List UInt8),([106,117,100,103,101,109,101,110,116,115]:List UInt8),(Lib.itoa (R.length:Int))]:List (List UInt8))))) [(18,.dead)],k4.o,k5.o,.k 4 (gI av [19]) (.exit 0) (cI 3 R Aq Ak),k6.o,k7.o,.c (.p (aD (lnM ([([115,117,109]:List UInt8),(Lib.itoa (bJ Ak))]:List (List UInt8))))) [(1,.dead)]] (gc Ba (gt (FC Tp 118 [(.own 1)] [(1,(.row 9 2 [(aD ([115,117,109]:List UInt8)),(aD (Lib.itoa (bJ Ak)))]))] 2 (.p (aD (lnM ([([115,117,109]:List UInt8),(Lib.itoa (bJ Ak))]:List (List UInt8))))) [(1,.dead)]) (FV.close (ids:=[1]) (Am:=[(.p (.sl 2 [(aD ([115,117,109]:List UInt8)),(aD (Lib.itoa (bJ Ak)))]))]) (eB ([([115,117,109]:List UInt8),(Lib.itoa (bJ Ak))]:List (List UInt8)) h8 h9) (by kernel_rfl)) (gc k7 (gc k6 (gc Cv.code (gc k5 (gc k4 (gt (FC Tp 118 [(.own 18)] [(18,(.row 9 3 [(aD ([107,108,105,115,116,101,114]:List UInt8)),(aD ([106,117,100,103,101,109,101,110,116,115]:List UInt8)),(aD (Lib.itoa (R.length:Int)))]))] 19 (.p (aD (lnM ([([107,108,105,115,116,101,114]:List UInt8),([106,117,100,103,101,109,101,110,116,115]:List UInt8),(Lib.itoa (R.length:Int))]:List (List UInt8))))) [(18,.dead)]) (FV.close (ids:=[18]) (Am:=[(.p (.sl 3 [(aD ([107,108,105,115,116,101,114]:List UInt8)),(aD ([106,117,100,103,101,109,101,110,116,115]:List UInt8)),(aD (Lib.itoa (R.length:Int)))]))]) (eB ([([107,108,105,115,116,101,114]:List UInt8),([106,117,100,103,101,109,101,110,116,115]:List UInt8),(Lib.itoa (R.length:Int))]:List (List UInt8)) h3 h4) (by kernel_rfl)) (gc k3 (gc bPj (gc k2 (gc (bV h0) (gc k1 gn)))))))))))))
theorem bTr(h6:65536<Ak.length)(h7:inR 0)(h8:([([115,117,109]:List UInt8),(Lib.itoa 0)]:List (List UInt8)).length≤1000000)(h9:(Lib.join ([([115,117,109]:List UInt8),(Lib.itoa 0)]:List (List UInt8)) [32]).length≤1000000)(Ba:Ak.length+(lnM ([([115,117,109]:List UInt8),(Lib.itoa 0)]:List (List UInt8))).length≤4611686018427387904):FV Tp 28 [(.p (.agg [(aB k),(.sl R.length (R.map aL))]))] base (.tup [(.p (aD (Ak++(lnM ([([115,117,109]:List UInt8),(Lib.itoa 0)]:List (List UInt8)))))),(pI 0)]) []:=by
 subst Cu;have k1:=fk 1 (iH 3 R) rfl;have k2:=fk 1 (jW) rfl;have k3:=fk 10 (dD (R.length:Int) h2) rfl;have k4:=fk 19 (eY 3) rfl;have k5:=fk 19 (eK) rfl;have k6:=fk 1 (pP Ak h6) rfl;have k7:=fk 1 (dD 0 h7) rfl;exact FV.fi func28 [k1.o,bF,k2.o,k3.o,.c (.p (aD (lnM ([([107,108,105,115,116,101,114]:List UInt8),([106,117,100,103,101,109,101,110,116,115]:List UInt8),(Lib.itoa (R.length:Int))]:List (List UInt8))))) [(18,.dead)],k4.o,k5.o,.k 4 (gI av [19]) (.exit 0) (cI 3 R Aq Ak),k6.o,k7.o,.c (.p (aD (lnM ([([115,117,109]:List UInt8),(Lib.itoa 0)]:List (List UInt8))))) [(1,.dead)]] (gc Ba (gt (FC Tp 118 [(.own 1)] [(1,(.row 9 2 [(aD ([115,117,109]:List UInt8)),(aD (Lib.itoa 0))]))] 2 (.p (aD (lnM ([([115,117,109]:List UInt8),(Lib.itoa 0)]:List (List UInt8))))) [(1,.dead)]) (FV.close (ids:=[1]) (Am:=[(.p (.sl 2 [(aD ([115,117,109]:List UInt8)),(aD (Lib.itoa 0))]))]) (eB ([([115,117,109]:List UInt8),(Lib.itoa 0)]:List (List UInt8)) h8 h9) (by kernel_rfl)) (gc k7 (gc k6 (gc Cv.code (gc k5 (gc k4 (gt (FC Tp 118 [(.own 18)] [(18,(.row 9 3 [(aD ([107,108,105,115,116,101,114]:List UInt8)),(aD ([106,117,100,103,101,109,101,110,116,115]:List UInt8)),(aD (Lib.itoa (R.length:Int)))]))] 19 (.p (aD (lnM ([([107,108,105,115,116,101,114]:List UInt8),([106,117,100,103,101,109,101,110,116,115]:List UInt8),(Lib.itoa (R.length:Int))]:List (List UInt8))))) [(18,.dead)]) (FV.close (ids:=[18]) (Am:=[(.p (.sl 3 [(aD ([107,108,105,115,116,101,114]:List UInt8)),(aD ([106,117,100,103,101,109,101,110,116,115]:List UInt8)),(aD (Lib.itoa (R.length:Int)))]))]) (eB ([([107,108,105,115,116,101,114]:List UInt8),([106,117,100,103,101,109,101,110,116,115]:List UInt8),(Lib.itoa (R.length:Int))]:List (List UInt8)) h3 h4) (by kernel_rfl)) (gc k3 (gc bPj (gc k2 (gc (bV h0) (gc k1 gn)))))))))))))
end
section
variable{R:List (List Cel)}{Ak:List UInt8}(h0:(dW k R)=0)(Cu:k=4)(h2:inR (R.length:Int))(h3:([([107,108,105,115,116,101,114]:List UInt8),([99,117,112,115]:List UInt8),(Lib.itoa (R.length:Int))]:List (List UInt8)).length≤1000000)(h4:(Lib.join ([([107,108,105,115,116,101,114]:List UInt8),([99,117,112,115]:List UInt8),(Lib.itoa (R.length:Int))]:List (List UInt8)) [32]).length≤1000000)(Cv:aF Tp 0 oK (cI k R 0 (lnM ([([107,108,105,115,116,101,114]:List UInt8),([99,117,112,115]:List UInt8),(Lib.itoa (R.length:Int))]:List (List UInt8)))) (.exit 0) (cI k R Aq Ak))
include h0 Cu h2 h3 h4 Cv
theorem bTs(h6:Ak.length≤65536)(h7:inR (bJ Ak))(h8:([([115,117,109]:List UInt8),(Lib.itoa (bJ Ak))]:List (List UInt8)).length≤1000000)(h9:(Lib.join ([([115,117,109]:List UInt8),(Lib.itoa (bJ Ak))]:List (List UInt8)) [32]).length≤1000000)(Ba:Ak.length+(lnM ([([115,117,109]:List UInt8),(Lib.itoa (bJ Ak))]:List (List UInt8))).length≤4611686018427387904):FV Tp 28 [(.p (.agg [(aB k),(.sl R.length (R.map aL))]))] base (.tup [(.p (aD (Ak++(lnM ([([115,117,109]:List UInt8),(Lib.itoa (bJ Ak))]:List (List UInt8)))))),(pI 0)]) []:=by
 subst Cu;have k1:=fk 1 (iH 4 R) rfl;have k2:=fk 1 (jW) rfl;have k3:=fk 10 (dD (R.length:Int) h2) rfl;have k4:=fk 19 (eY 4) rfl;have k5:=fk 19 (eK) rfl;have k6:=fk 1 (fO Ak h6) rfl;have k7:=fk 1 (dD (bJ Ak) h7) rfl;exact FV.fi func28 [k1.o,bF,k2.o,k3.o,.c (.p (aD (lnM ([([107,108,105,115,116,101,114]:List UInt8),([99,117,112,115]:List UInt8),(Lib.itoa (R.length:Int))]:List (List UInt8))))) [(18,.dead)],k4.o,k5.o,.k 4 (gI av [19]) (.exit 0) (cI 4 R Aq Ak),k6.o,k7.o,.c (.p (aD (lnM ([([115,117,109]:List UInt8),(Lib.itoa (bJ Ak))]:List (List UInt8))))) [(1,.dead)]] (gc Ba (gt (FC Tp 118 [(.own 1)] [(1,(.row 9 2 [(aD ([115,117,109]:List UInt8)),(aD (Lib.itoa (bJ Ak)))]))] 2 (.p (aD (lnM ([([115,117,109]:List UInt8),(Lib.itoa (bJ Ak))]:List (List UInt8))))) [(1,.dead)]) (FV.close (ids:=[1]) (Am:=[(.p (.sl 2 [(aD ([115,117,109]:List UInt8)),(aD (Lib.itoa (bJ Ak)))]))]) (eB ([([115,117,109]:List UInt8),(Lib.itoa (bJ Ak))]:List (List UInt8)) h8 h9) (by kernel_rfl)) (gc k7 (gc k6 (gc Cv.code (gc k5 (gc k4 (gt (FC Tp 118 [(.own 18)] [(18,(.row 9 3 [(aD ([107,108,105,115,116,101,114]:List UInt8)),(aD ([99,117,112,115]:List UInt8)),(aD (Lib.itoa (R.length:Int)))]))] 19 (.p (aD (lnM ([([107,108,105,115,116,101,114]:List UInt8),([99,117,112,115]:List UInt8),(Lib.itoa (R.length:Int))]:List (List UInt8))))) [(18,.dead)]) (FV.close (ids:=[18]) (Am:=[(.p (.sl 3 [(aD ([107,108,105,115,116,101,114]:List UInt8)),(aD ([99,117,112,115]:List UInt8)),(aD (Lib.itoa (R.length:Int)))]))]) (eB ([([107,108,105,115,116,101,114]:List UInt8),([99,117,112,115]:List UInt8),(Lib.itoa (R.length:Int))]:List (List UInt8)) h3 h4) (by kernel_rfl)) (gc k3 (gc bPk (gc k2 (gc (bV h0) (gc k1 gn)))))))))))))
theorem bLa(h6:65536<Ak.length)(h7:inR 0)(h8:([([115,117,109]:List UInt8),(Lib.itoa 0)]:List (List UInt8)).length≤1000000)(h9:(Lib.join ([([115,117,109]:List UInt8),(Lib.itoa 0)]:List (List UInt8)) [32]).length≤1000000)(Ba:Ak.length+(lnM ([([115,117,109]:List UInt8),(Lib.itoa 0)]:List (List UInt8))).length≤4611686018427387904):FV Tp 28 [(.p (.agg [(aB k),(.sl R.length (R.map aL))]))] base (.tup [(.p (aD (Ak++(lnM ([([115,117,109]:List UInt8),(Lib.itoa 0)]:List (List UInt8)))))),(pI 0)]) []:=by
 subst Cu;have k1:=fk 1 (iH 4 R) rfl;have k2:=fk 1 (jW) rfl;have k3:=fk 10 (dD (R.length:Int) h2) rfl;have k4:=fk 19 (eY 4) rfl;have k5:=fk 19 (eK) rfl;have k6:=fk 1 (pP Ak h6) rfl;have k7:=fk 1 (dD 0 h7) rfl;exact FV.fi func28 [k1.o,bF,k2.o,k3.o,.c (.p (aD (lnM ([([107,108,105,115,116,101,114]:List UInt8),([99,117,112,115]:List UInt8),(Lib.itoa (R.length:Int))]:List (List UInt8))))) [(18,.dead)],k4.o,k5.o,.k 4 (gI av [19]) (.exit 0) (cI 4 R Aq Ak),k6.o,k7.o,.c (.p (aD (lnM ([([115,117,109]:List UInt8),(Lib.itoa 0)]:List (List UInt8))))) [(1,.dead)]] (gc Ba (gt (FC Tp 118 [(.own 1)] [(1,(.row 9 2 [(aD ([115,117,109]:List UInt8)),(aD (Lib.itoa 0))]))] 2 (.p (aD (lnM ([([115,117,109]:List UInt8),(Lib.itoa 0)]:List (List UInt8))))) [(1,.dead)]) (FV.close (ids:=[1]) (Am:=[(.p (.sl 2 [(aD ([115,117,109]:List UInt8)),(aD (Lib.itoa 0))]))]) (eB ([([115,117,109]:List UInt8),(Lib.itoa 0)]:List (List UInt8)) h8 h9) (by kernel_rfl)) (gc k7 (gc k6 (gc Cv.code (gc k5 (gc k4 (gt (FC Tp 118 [(.own 18)] [(18,(.row 9 3 [(aD ([107,108,105,115,116,101,114]:List UInt8)),(aD ([99,117,112,115]:List UInt8)),(aD (Lib.itoa (R.length:Int)))]))] 19 (.p (aD (lnM ([([107,108,105,115,116,101,114]:List UInt8),([99,117,112,115]:List UInt8),(Lib.itoa (R.length:Int))]:List (List UInt8))))) [(18,.dead)]) (FV.close (ids:=[18]) (Am:=[(.p (.sl 3 [(aD ([107,108,105,115,116,101,114]:List UInt8)),(aD ([99,117,112,115]:List UInt8)),(aD (Lib.itoa (R.length:Int)))]))]) (eB ([([107,108,105,115,116,101,114]:List UInt8),([99,117,112,115]:List UInt8),(Lib.itoa (R.length:Int))]:List (List UInt8)) h3 h4) (by kernel_rfl)) (gc k3 (gc bPk (gc k2 (gc (bV h0) (gc k1 gn)))))))))))))
end
def fW(k:Int)(R:List (List Cel))(i:Nat)(o:List UInt8)(Ab:List Cel)(j fn:Nat)(fc:List PV):St:=⟨fr 81 [(2,(.p (aD ([]:List UInt8)))),(3,(pI 0)),(5,(.p (aD o))),(6,(.p (bK (aJ k)))),(8,(.ptr 0 0)),(10,(.p (.sl Ab.length ((Ab.map cE).flatten)))),(11,(.own 1)),(38,(.p (.sl R.length (R.map aL)))),(39,(pI (R.length:Int))),(40,(pI (i:Int))),(41,(pB (decide ((i:Int)<(R.length:Int))))),(42,(.rp (R.map aL) (i*1))),(43,(.p (.sl Ab.length ((Ab.map cE).flatten)))),(44,(.p (bK (aJ k)))),(45,(pI ((aJ k).length:Int))),(46,(pI (j:Int)))],[some (.box 214 [(.fn 224 [] [(.rp [(PV.fn 188 [] [])] 0)]),(.fn 225 [] [(.rp [(PV.fn 120 [] [])] 0)]),(.fn 226 [] [(.rp [(aB 999999)] 0)]),(.fn 224 [] [(.rp [(PV.fn 39 [] [])] 0)]),(.fn 225 [] [(.rp [(PV.fn 189 [] [])] 0)]),(.fn 226 [] [(.rp [(aB 360000)] 0)]),(.fn 227 [] [(.rp [(PV.fn 191 [] [])] 0)]),(.fn 228 [] []),(.fn 229 [] [(.rp [(PV.fn 191 [] [])] 0)]),(.fn 227 [] [(.rp [(PV.fn 192 [] [])] 0)]),(.fn 228 [] []),(.fn 229 [] [(.rp [(PV.fn 192 [] [])] 0)])]),some (.row 9 fn fc)]⟩
theorem aWy{R:List (List Cel)}{o:List UInt8}{Ab:List Cel}{Kf:Nat}{Ce:List (List UInt8)}{i':Nat}{o':List UInt8}(h0:(i:Int)<(R.length:Int))(h1:R[i]? = some Ab)(Bp:aF Tp 0 aDi (fW k R i o Ab 0 0 []) (.exit 2) (fW k R i o Ab Kf Ce.length ((Ce.map stE).flatten)))(h3:Ce.length≤1000000)(h4:(Lib.join Ce [32]).length≤1000000)(h5:o.length+(lnM Ce).length≤4611686018427387904)(h6:co i)(Aj:i'=(i+1))(Mq:o'=(o++(lnM Ce))):aA Tp 0 oK (cI k R i o) .normal (cI k R i' o'):=by
 subst Aj Mq;exact aA.fi (gI av [0]) [bT,.x (.sl Ab.length ((Ab.map cE).flatten)),Bp.k 6 (gN ap [0,1] [(11,9)]),.c (.p (aD (lnM Ce))) [(1,.dead)]] (gc h6 (gc h5 (gt (FC Tp 118 [(.own 1)] [(1,(.row 9 Ce.length ((Ce.map stE).flatten)))] 2 (.p (aD (lnM Ce))) [(1,.dead)]) (FV.close (ids:=[1]) (Am:=[(.p (.sl Ce.length ((Ce.map stE).flatten)))]) (eB Ce h3 h4) (by kernel_rfl)) (gc Bp.code (gc (atm aL h1) (gc (ixn aL h1) (g0 h0)))))))
theorem aWz{R:List (List Cel)}{o:List UInt8}(h0:(R.length:Int)≤(i:Int)):aA Tp 0 oK (cI k R i o) (.exit 0) (cI k R i o):=aA.fi (gI av [0]) [bF] (gc (bC h0) gn)
section
variable(h0:(j:Int)<((aJ k).length:Int))
include h0
theorem aXa{R:List (List Cel)}{o:List UInt8}{Ab:List Cel}{f:List (List UInt8)}{Bj:List UInt8}{f':List (List UInt8)}(h1:(aJ k)[j]? = some 0)(h2:Ab[j]? = some (Bm,Bj))(h3:inR Bm)(h4:[(aD (wrM 0 (Bm,Bj)))].length=1*1∧f.length+1≤1000000)(h5:co j)(Bv:j'=(j+1))(Fu:f'.length=(f.length+1))(Fv:(f'.map stE).flatten=(((f.map stE).flatten)++[(aD (wrM 0 (Bm,Bj)))])):aA Tp 0 aDi (fW k R i o Ab j f.length ((f.map stE).flatten)) .normal (fW k R i o Ab j' f'.length ((f'.map stE).flatten)):=by
 subst Bv;have k1:=fk 2 (bVt Bm Bj h3) rfl;rw [Fu,Fv];exact aA.fi (gI ap [0,11]) [bT,.x (aB 0),.x (.agg [(aB Bm),(aD Bj)]),k1.o] (gc h5 (gc h4 (gc k1 (gc (bE (E:=cE) (i:=j) (k:=2) (fun _=>rfl) h2 rfl) (gc (cC (E:=cE) (i:=j) (k:=2) (fun _=>rfl) h2) (gc (bD (E:=cE) (k:=2) (i:=(j:Int)) (fun _=>rfl) (by decide) (Bu _) h2) (gt (0≤(0:Int)∧(0:Int)<4) (by first | decide | simp) (gc (atm aB h1) (gc (ixn aB h1) (g0 h0))))))))))
theorem aXb{R:List (List Cel)}{o:List UInt8}{Ab:List Cel}{f:List (List UInt8)}{Bj:List UInt8}{f':List (List UInt8)}(h1:(aJ k)[j]? = some 1)(h2:Ab[j]? = some (Bm,Bj))(h3:[(aD (wrM 1 (Bm,Bj)))].length=1*1∧f.length+1≤1000000)(h4:co j)(Bv:j'=(j+1))(Fu:f'.length=(f.length+1))(Fv:(f'.map stE).flatten=(((f.map stE).flatten)++[(aD (wrM 1 (Bm,Bj)))])):aA Tp 0 aDi (fW k R i o Ab j f.length ((f.map stE).flatten)) .normal (fW k R i o Ab j' f'.length ((f'.map stE).flatten)):=by
 subst Bv;have k1:=fk 2 (bVu Bm Bj) rfl;rw [Fu,Fv];exact aA.fi (gI ap [0,11]) [bT,.x (aB 1),.x (.agg [(aB Bm),(aD Bj)]),k1.o] (gc h4 (gc h3 (gc k1 (gc (bE (E:=cE) (i:=j) (k:=2) (fun _=>rfl) h2 rfl) (gc (cC (E:=cE) (i:=j) (k:=2) (fun _=>rfl) h2) (gc (bD (E:=cE) (k:=2) (i:=(j:Int)) (fun _=>rfl) (by decide) (Bu _) h2) (gt (0≤(1:Int)∧(1:Int)<4) (by first | decide | simp) (gc (atm aB h1) (gc (ixn aB h1) (g0 h0))))))))))
theorem aXc{R:List (List Cel)}{o:List UInt8}{Ab:List Cel}{f:List (List UInt8)}{Bj:List UInt8}{f':List (List UInt8)}(h1:(aJ k)[j]? = some 2)(h2:Ab[j]? = some (Bm,Bj))(h3:[(aD (wrM 2 (Bm,Bj)))].length=1*1∧f.length+1≤1000000)(h4:co j)(Bv:j'=(j+1))(Fu:f'.length=(f.length+1))(Fv:(f'.map stE).flatten=(((f.map stE).flatten)++[(aD (wrM 2 (Bm,Bj)))])):aA Tp 0 aDi (fW k R i o Ab j f.length ((f.map stE).flatten)) .normal (fW k R i o Ab j' f'.length ((f'.map stE).flatten)):=by
 subst Bv;have k1:=fk 2 (bGb Bm Bj) rfl;rw [Fu,Fv];exact aA.fi (gI ap [0,11]) [bT,.x (aB 2),.x (.agg [(aB Bm),(aD Bj)]),k1.o] (gc h4 (gc h3 (gc k1 (gc (bE (E:=cE) (i:=j) (k:=2) (fun _=>rfl) h2 rfl) (gc (cC (E:=cE) (i:=j) (k:=2) (fun _=>rfl) h2) (gc (bD (E:=cE) (k:=2) (i:=(j:Int)) (fun _=>rfl) (by decide) (Bu _) h2) (gt (0≤(2:Int)∧(2:Int)<4) (by first | decide | simp) (gc (atm aB h1) (gc (ixn aB h1) (g0 h0))))))))))
theorem aXd{R:List (List Cel)}{o:List UInt8}{Ab:List Cel}{f:List (List UInt8)}{Bj:List UInt8}{f':List (List UInt8)}(h1:(aJ k)[j]? = some 3)(h2:Ab[j]? = some (Bm,Bj))(h3:[(aD (wrM 2 (Bm,Bj)))].length=1*1∧f.length+1≤1000000)(h4:co j)(Bv:j'=(j+1))(Fu:f'.length=(f.length+1))(Fv:(f'.map stE).flatten=(((f.map stE).flatten)++[(aD (wrM 2 (Bm,Bj)))])):aA Tp 0 aDi (fW k R i o Ab j f.length ((f.map stE).flatten)) .normal (fW k R i o Ab j' f'.length ((f'.map stE).flatten)):=by
 subst Bv;have k1:=fk 2 (bGb Bm Bj) rfl;rw [Fu,Fv];exact aA.fi (gI ap [0,11]) [bT,.x (aB 3),.x (.agg [(aB Bm),(aD Bj)]),k1.o] (gc h4 (gc h3 (gc k1 (gc (bE (E:=cE) (i:=j) (k:=2) (fun _=>rfl) h2 rfl) (gc (cC (E:=cE) (i:=j) (k:=2) (fun _=>rfl) h2) (gc (bD (E:=cE) (k:=2) (i:=(j:Int)) (fun _=>rfl) (by decide) (Bu _) h2) (gt (0≤(3:Int)∧(3:Int)<4) (by first | decide | simp) (gc (atm aB h1) (gc (ixn aB h1) (g0 h0))))))))))
end
theorem aXe{R:List (List Cel)}{o:List UInt8}{Ab:List Cel}{f:List (List UInt8)}(h0:((aJ k).length:Int)≤(j:Int)):aA Tp 0 aDi (fW k R i o Ab j f.length ((f.map stE).flatten)) (.exit 2) (fW k R i o Ab j f.length ((f.map stE).flatten)):=aA.fi (gI ap [0,1]) [bF] (gc (bC h0) gn)
end
end KV
end Go.Proofs
section
namespace Go.Proofs
open Go.RowKit
namespace KV
open Tryz
def iG(k:Int)(x:List Cel):List (List UInt8):=List.zipWith wrM (aJ k) x
def uC(k:Int):List UInt8:=if k=0 then [115,116,97,114,116,115] else if k=1 then [112,97,115,115,101,115] else if k=2 then [116,97,114,103,101,116,115] else if k=3 then [106,117,100,103,101,109,101,110,116,115] else [99,117,112,115]
def lN(k:Int)(n:Nat):List UInt8:=lnM [[107,108,105,115,116,101,114],uC k,Lib.itoa (n:Int)]
def kC(k:Int)(R:List (List Cel)):List UInt8:=R.foldl (fun o x=>o++lnM (iG k x)) (lN k R.length)
def kV(b:List UInt8):Int:=if b.length≤65536 then bJ b else 0
def pO(k:Int)(R:List (List Cel)):List UInt8 × Int:=if dW k R≠0 then ([],dW k R) else (kC k R++lnM [[115,117,109],Lib.itoa (kV (kC k R))],0)
theorem bKy(t:Int)(c:Cel):ckM t c=0∨ckM t c=3∨ckM t c=11:=by
 unfold ckM
 repeat' split
 all_goals simp
theorem bFp{a:Int}{z:List UInt8}(h:ckM 0 (a,z)=0):0≤a∧a≤999999:=by
 by_cases q:within a 0 999999=true
 ·exact cM.1 q
 ·have e:ckM 0 (a,z)=3:=by simp [ckM,q]
  rw [e] at h;exact absurd h (by decide)
theorem bTc{a:Int}{z:List UInt8}(h:ckM 1 (a,z)=0):0≤a∧a≤360000:=by
 by_cases q:within a 0 360000=true
 ·exact cM.1 q
 ·have e:ckM 1 (a,z)=3:=by simp [ckM,q]
  rw [e] at h;exact absurd h (by decide)
theorem bTd{a:Int}{z:List UInt8}(h:ckM 2 (a,z)=0):mY z=true∧z.length≤8:=by
 by_cases q:mY z=true
 ·refine ⟨q,?_⟩
  unfold mY at q
  rw [B0] at q
  have:=cM.1 q.1;omega
 ·have e:ckM 2 (a,z)=11:=by simp [ckM,q]
  rw [e] at h;exact absurd h (by decide)
theorem bTe{a:Int}{z:List UInt8}(h:ckM 3 (a,z)=0):mZ z=true∧z.length≤12:=by
 by_cases q:mZ z=true
 ·refine ⟨q,?_⟩
  unfold mZ at q
  rw [B0] at q
  have:=cM.1 q.1;omega
 ·have e:ckM 3 (a,z)=11:=by simp [ckM,q]
  rw [e] at h;exact absurd h (by decide)
theorem bTf{a:Int}(h:0≤a∧a≤360000):(ptM a).1.length≤66:=by
 have h1:a.tdiv 10=a / 10:=Int.tdiv_eq_ediv_of_nonneg h.1;have h2:a.tdiv 600=a / 600:=Int.tdiv_eq_ediv_of_nonneg h.1;have h3:a.tmod 10=a % 10:=Int.tmod_eq_emod_of_nonneg h.1;have h4:(a.tdiv 10).tmod 60=a.tdiv 10 % 60:=Int.tmod_eq_emod_of_nonneg (by omega)
 have l1:=itl (n:=a.tdiv 600) (by omega)
 have l2:=itl (n:=a.tmod 10) (by omega)
 have l3:=itl (n:=100+(a.tdiv 10).tmod 60) (by omega)
 unfold ptM;rw [if_pos (cM.2 h)];simp only [Bz,sI,eT,List.length_nil];omega
theorem bTg{t:Int}{c:Cel}(ht:t=0∨t=1∨t=2∨t=3)(h:ckM t c=0):(wrM t c).length≤66:=by
 obtain ⟨a,z⟩:=c
 rcases ht with rfl | rfl | rfl | rfl
 ·have:=bFp h
  have:=itl (n:=a) (by omega)
  show (Lib.itoa a).length≤66;omega
 ·exact bTf (bTc h)
 ·have:=(bTd h).2
  show z.length≤66;omega
 ·have:=(bTe h).2
  show z.length≤66;omega
structure aAd (k:Int) (R:List (List Cel)):Prop where
 n:R.length≤200
 w:within k 0 4=true
 len:∀ x∈R,x.length=(aJ k).length
 ck:∀ x∈R,∀ (j:Nat) t c,(aJ k)[j]? = some t→x[j]? = some c→ckM t c=0
theorem aAe{k:Int}{R:List (List Cel)}(h:dW k R=0):aAd k R:=by
 unfold dW at h
 split at h
 ·cases h
 ·rename_i hk
  split at h
  ·cases h
  ·rename_i hn
   have hl:R.length≤200:=by
    apply Classical.byContradiction;intro q;exact hn (.inl (by omega))
   have hne:R.all Dw=true:=by
    cases e:R.all Dw
    ·exact absurd (.inr e) hn
    ·rfl
   split at h
   ·rename_i hc;exact absurd h hc
   ·rename_i hc
    have hc:kW k R=0:=by
     apply Classical.byContradiction;exact hc
    have hf:=aQu (k:=k) (R:=R) (by rw [hc];decide)
    have Hw:=hf;rw [iD] at hf hne
    refine ⟨hl,by simpa using hk,fun x hx=>aQt (hne x hx) (hf x hx),fun x hx j t c h1 h2 => ?_⟩
    unfold kW at hc
    rw [if_neg (by rw [Hw];simp)] at hc
    split at hc
    ·cases hc
    ·rename_i q3
     split at hc
     ·cases hc
     ·rename_i P1
      have hm:(aJn k x)[j]? = some (ckM t c):=by
       unfold aJn;rw [List.getElem?_zipWith,h1,h2]
      have key:∀ e,¬ (R.any (aAi k e)=true)→ckM t c≠e:=fun e q he=>q (List.any_eq_true.2 ⟨x,hx,List.any_eq_true.2 ⟨_,Ch hm,by simpa using he⟩⟩)
      rcases bKy t c with e | e | e
      ·exact e
      ·exact absurd e (key 3 q3)
      ·exact absurd e (key 11 P1)
theorem sJ(a b:List UInt8)(r:List (List UInt8))(sep:List UInt8):Lib.join (a::b::r) sep=a++sep++Lib.join (b::r) sep:=by
 simp [Lib.join,List.intercalate]
theorem mX(B:Nat):∀ (l:List (List UInt8)),(∀ s∈l,s.length≤B)→(Lib.join l [32]).length≤l.length*(B+1)
 | [],_=>by simp [Lib.join,List.intercalate]
 | [a],h=>by
  have:=h a (by simp)
  simp [Lib.join,List.intercalate];omega
 | a::b::r,h=>by
  have h1:=h a (by simp)
  have h2:=mX B (b::r) (fun s hs=>h s (by simp at hs ⊢;exact .inr hs))
  rw [sJ,Bz,Bz,eT (a:=a),Nat.succ_mul];simp only [eT,List.length_nil] at h2 ⊢
  omega
theorem jN(k:Int):(aJ k).length≤4:=by
 unfold aJ;repeat' split
 all_goals simp
theorem bKz{k:Int}{x:List Cel}{s:List UInt8}(h:s∈iG k x):∃ (j:Nat) (t:Int) (c:Cel),(aJ k)[j]? = some t∧x[j]? = some c∧s=wrM t c:=by
 obtain ⟨j,hj,e⟩:=List.mem_iff_getElem.1 h;have:(iG k x)[j]? = some s:=by rw [B4 hj,e]
 unfold iG at this
 rw [List.getElem?_zipWith] at this
 cases h1:(aJ k)[j]? with
 | none=>rw [h1] at this;simp at this
 | some t =>
  cases h2:x[j]? with
  | none=>rw [h1,h2] at this;simp at this
  | some c=>rw [h1,h2] at this;exact ⟨j,t,c,h1,h2,by simpa using this.symm⟩
theorem aJi{k:Int}{R:List (List Cel)}(hR:aAd k R){x:List Cel}(hx:x∈R):(iG k x).length≤4∧(Lib.join (iG k x) [32]).length≤268:=by
 have hl:(iG k x).length≤4:=by
  have:=jN k;unfold iG;rw [List.length_zipWith];omega
 have:=mX 66 (iG k x) (fun s hs=>by
  obtain ⟨j,t,c,h1,h2,rfl⟩:=bKz hs;exact bTg (jO h1) (hR.ck x hx j t c h1 h2))
 refine ⟨hl,iE this ?_⟩;omega
theorem aDh:∀ (l:List (Int × Cel)) (f:List (List UInt8)),l.foldl (fun f p=>f++[wrM p.1 p.2]) f=f++l.map (fun p=>wrM p.1 p.2)
 | [],f=>by simp
 | p::l,f=>by rw [bKi,aDh l,fV];simp
theorem bFq(k:Int)(x:List Cel):((aJ k).zip x).map (fun p=>wrM p.1 p.2)=iG k x:=by
 unfold iG;rw [List.zip,List.map_zipWith]
theorem bTh{l:List Int}{x:List Cel}{j:Nat}{p:Int × Cel}(h:(l.zip x)[j]? = some p):l[j]? = some p.1∧x[j]? = some p.2:=by
 rw [List.zip,List.getElem?_zipWith] at h
 cases h1:l[j]? with
 | none=>rw [h1] at h;simp at h
 | some t =>
  cases h2:x[j]? with
  | none=>rw [h1,h2] at h;simp at h
  | some c=>rw [h1,h2] at h;simp at h;subst h;exact ⟨rfl,rfl⟩
theorem aNq{k:Int}{R:List (List Cel)}(hR:aAd k R){x:List Cel}(hx:x∈R)(i:Nat)(o:List UInt8) :
  aF Tp 0 (sub (cd Tryz.f28) aj) (fW k R i o x 0 0 []) (.exit 2) (fW k R i o x (aJ k).length (iG k x).length (((iG k x).map stE).flatten)):=by
 have hc:=jN k;have hl:((aJ k).zip x).length=(aJ k).length:=by rw [List.length_zip,hR.len x hx,Nat.min_self]
 have:=aF.range (P:=Tp) (k:=0) (b:=(sub (cd Tryz.f28) aj)) (e := .exit 2) (fun j (f:List (List UInt8))=>fW k R i o x j f.length ((f.map stE).flatten)) (fun f=>fW k R i o x (aJ k).length f.length ((f.map stE).flatten)) (fun f p=>f++[wrM p.1 p.2]) (fun j f=>f.length=j) (by simp) ((aJ k).zip x) (a0:=[]) rfl
  (fun j p f hp hf=>by
   have hj:=bI hp;obtain ⟨h1,h2⟩:=bTh hp;obtain ⟨t,a,z⟩:=p;have hk:=hR.ck x hx j t (a,z) h1 h2;refine ⟨by simp [hf],?_⟩
   rcases jO h1 with e | e | e | e
   ·simp only at e h1 h2;subst e
    have hb:=bFp hk;exact aXa (by omega) h1 h2 (by show _∧_;omega) ⟨rfl,by omega⟩ (aT (by omega)) rfl (by simp) (by simp [stE])
   ·simp only at e h1 h2;subst e
    exact aXb (by omega) h1 h2 ⟨rfl,by omega⟩ (aT (by omega)) rfl (by simp) (by simp [stE])
   ·simp only at e h1 h2;subst e
    exact aXc (by omega) h1 h2 ⟨rfl,by omega⟩ (aT (by omega)) rfl (by simp) (by simp [stE])
   ·simp only at e h1 h2;subst e
    exact aXd (by omega) h1 h2 ⟨rfl,by omega⟩ (aT (by omega)) rfl (by simp) (by simp [stE,wrM]))
  (fun f _=>by rw [hl];exact aXe (by omega))
 rw [aDh,List.nil_append,bFq] at this
 exact this
theorem aWx{k:Int}{R:List (List Cel)}(hR:aAd k R)(h:List UInt8)(hh:h.length≤1000) :
  aF Tp 0 (sub (cd Tryz.f28) [1,1,1,1,1,0,1,0,0]) (cI k R 0 h) (.exit 0) (cI k R R.length (R.foldl (fun o x=>o++lnM (iG k x)) h)):=by
 have hn:=hR.n;exact aF.range (P:=Tp) (k:=0) (b:=(sub (cd Tryz.f28) [1,1,1,1,1,0,1,0,0])) (e := .exit 0) (fun i (o:List UInt8)=>cI k R i o) (fun o=>cI k R R.length o) (fun o x=>o++lnM (iG k x)) (fun i o=>o.length≤1000+300*i) (by simp) R (a0:=h) (by omega)
  (fun i x o hx ho=>by
   have hi:=bI hx;have hm:=Ch hx;obtain ⟨q1,q2⟩:=aJi hR hm;have hln:(lnM (iG k x)).length≤269:=by unfold lnM;rw [Bz];simp;omega
   exact ⟨by rw [Bz];omega,aWy (by omega) hx (aNq hR hm i o) (by omega) (by omega) (by omega) (aT (by omega)) rfl rfl⟩)
  (fun o _=>aWz (by omega))
theorem aAf{k:Int}{R:List (List Cel)}(hR:aAd k R):∀ (l:List (List Cel)) (h:List UInt8),(∀ x∈l,x∈R)→(l.foldl (fun o x=>o++lnM (iG k x)) h).length≤h.length+300*l.length
 | [],h,_=>by simp
 | x::l,h,hx=>by
  obtain ⟨q1,q2⟩:=aJi hR (hx x (by simp))
  have hln:(lnM (iG k x)).length≤269:=by unfold lnM;rw [Bz];simp;omega
  have:=aAf hR l (h++lnM (iG k x)) (fun y hy=>hx y (by simp [hy]))
  rw [Bz] at this
  rw [bKi,eT];omega
theorem aQs(b:List UInt8):0≤bJ b∧bJ b<65521:=aOm b 0 (by omega)
theorem aNr(k:Int)(R:List (List Cel)){base:Nat}:FV Tp 28 [.p (.agg [aB k,bY R])] base (.tup [.p (aD (pO k R).1),.p (aB (pO k R).2)]) []:=by
 unfold pO
 by_cases hc:dW k R=0
 ·rw [if_neg (by simp [hc])]
  have hR:=aAe hc;have hn:=hR.n;have hi:=itl (n:=(R.length:Int)) (by omega)
  have hw:(uC k).length≤10:=by unfold uC;(repeat' split) <;> simp
  have hj:∀ w:List UInt8,w.length≤10→(Lib.join [[107,108,105,115,116,101,114],w,Lib.itoa (R.length:Int)] [32]).length≤100:=fun w hw=>by
   have:=mX 30 [[107,108,105,115,116,101,114],w,Lib.itoa (R.length:Int)] (fun s hs=>by
    simp only [lA,List.not_mem_nil,or_false] at hs
    rcases hs with rfl | rfl | rfl
    ·simp
    ·omega
    ·omega)
   simp only [eT,List.length_nil] at this
   omega
  have hh:(lN k R.length).length≤1000:=by
   have:=hj (uC k) hw;unfold lN lnM;rw [Bz];simp;omega
  have L:=aWx hR (lN k R.length) hh;have hb:=aAf hR R (lN k R.length) (fun x hx=>hx)
  have ev:kC k R=R.foldl (fun o x=>o++lnM (iG k x)) (lN k R.length):=rfl
  rw [← ev] at L hb
  generalize kC k R=b at L hb ⊢
  have hsv:0≤kV b∧kV b<65521:=by
   unfold kV;split
   ·exact aQs b
   ·omega
  have hs:=itl (n:=kV b) (by omega)
  have hjs:(Lib.join [[115,117,109],Lib.itoa (kV b)] [32]).length≤100:=by
   have:=mX 30 [[115,117,109],Lib.itoa (kV b)] (fun s hs=>by
    simp only [lA,List.not_mem_nil,or_false] at hs
    rcases hs with rfl | rfl
    ·simp
    ·omega)
   simp only [eT,List.length_nil] at this
   omega
  have hls:(lnM [[115,117,109],Lib.itoa (kV b)]).length≤101:=by unfold lnM;rw [Bz];simp;omega
  have hk:=cM.1 hR.w;have Oe:k=0∨k=1∨k=2∨k=3∨k=4:=by omega
  have g1:inR (R.length:Int):=aT (by omega)
  have h3:∀ w:List UInt8,([[107,108,105,115,116,101,114],w,Lib.itoa (R.length:Int)]:List (List UInt8)).length≤1000000:=fun w=>by simp
  have h2:([[115,117,109],Lib.itoa (kV b)]:List (List UInt8)).length≤1000000:=by simp
  have gs:inR (kV b):=by unfold inR;omega
  by_cases h6:b.length≤65536
  ·have es:kV b=bJ b:=by unfold kV;rw [if_pos h6]
   rw [es] at hjs hls h2 gs ⊢
   rcases Oe with rfl | rfl | rfl | rfl | rfl
   ·exact bTk hc rfl g1 (h3 _) (iE (hj _ (by simp)) (by omega)) L h6 gs h2 (by omega) (by omega)
   ·exact bTm hc rfl g1 (h3 _) (iE (hj _ (by simp)) (by omega)) L h6 gs h2 (by omega) (by omega)
   ·exact bTo hc rfl g1 (h3 _) (iE (hj _ (by simp)) (by omega)) L h6 gs h2 (by omega) (by omega)
   ·exact bTq hc rfl g1 (h3 _) (iE (hj _ (by simp)) (by omega)) L h6 gs h2 (by omega) (by omega)
   ·exact bTs hc rfl g1 (h3 _) (iE (hj _ (by simp)) (by omega)) L h6 gs h2 (by omega) (by omega)
  ·have es:kV b=0:=by unfold kV;rw [if_neg h6]
   rw [es] at hjs hls h2 gs ⊢
   rcases Oe with rfl | rfl | rfl | rfl | rfl
   ·exact bTl hc rfl g1 (h3 _) (iE (hj _ (by simp)) (by omega)) L (by omega) gs h2 (by omega) (by omega)
   ·exact bTn hc rfl g1 (h3 _) (iE (hj _ (by simp)) (by omega)) L (by omega) gs h2 (by omega) (by omega)
   ·exact bTp hc rfl g1 (h3 _) (iE (hj _ (by simp)) (by omega)) L (by omega) gs h2 (by omega) (by omega)
   ·exact bTr hc rfl g1 (h3 _) (iE (hj _ (by simp)) (by omega)) L (by omega) gs h2 (by omega) (by omega)
   ·exact bLa hc rfl g1 (h3 _) (iE (hj _ (by simp)) (by omega)) L (by omega) gs h2 (by omega) (by omega)
 ·rw [if_pos hc]
  exact bTj hc rfl
end KV
end Go.Proofs
end
namespace Go.Proofs
namespace KV
open Tryz
section
variable {r0:Bool}{e f k l er fd ln:Int}{i i' Aq:Nat}

noncomputable abbrev mV:Code:=sub (cd Tryz.f177) [1,0,1,0,0]
theorem bOw:0≤(0:Int)∧(0:Int)<5:=by first | decide | simp
theorem bOx:(decide ((0:Int)<5))=true:=by first | decide | simp
theorem bOy:0≤(1:Int)∧(1:Int)<5:=by first | decide | simp
theorem bOz:(decide ((1:Int)<5))=true:=by first | decide | simp
theorem bPa:0≤(2:Int)∧(2:Int)<5:=by first | decide | simp
theorem bPb:(decide ((2:Int)<5))=true:=by first | decide | simp
theorem bPc:0≤(3:Int)∧(3:Int)<5:=by first | decide | simp
theorem bPd:(decide ((3:Int)<5))=true:=by first | decide | simp
theorem bPe:0≤(4:Int)∧(4:Int)<5:=by first | decide | simp
theorem bPf:(decide ((4:Int)<5))=true:=by first | decide | simp
def rwE(r:List Cel):List PV:=[aL r]
theorem fB:∀ R:List (List Cel),(R.map rwE).flatten=R.map aL
 | []=>rfl
 | r::R=>by rw [fV,vG,fB R];rfl
theorem bSy{R:List (List Cel)}(h0:e=0)(h1:er≠0)(Al:r0=(er == 0)):FMM Tp 176 [(pI fd),(pI er),(.ptr 0 0),(.ptr 1 0)] [some (.box 156 [(.ptr 2 0)]),some (.box 3 [(pI ln)]),some (.box 158 [(pI k),(.own 3),(pI l),(pI f),(pI e)]),some (.row 78 R.length ((R.map rwE).flatten))] (pB r0) [some (.box 156 [(.ptr 2 0)]),some (.box 3 [(pI ln)]),some (.box 158 [(pI k),(.own 3),(pI ln),(pI fd),(pI er)]),some (.row 78 R.length ((R.map rwE).flatten))]:=by
 subst Al;exact FMM.fi 4 gE func176 [bT,bT,bT,bT] (gc (fD h1) (A1 (dF h0) gn))
theorem bSz{R:List (List Cel)}(h0:e=0)(h1:er=0)(Al:r0=(e == 0)):FMM Tp 176 [(pI fd),(pI er),(.ptr 0 0),(.ptr 1 0)] [some (.box 156 [(.ptr 2 0)]),some (.box 3 [(pI ln)]),some (.box 158 [(pI k),(.own 3),(pI l),(pI f),(pI e)]),some (.row 78 R.length ((R.map rwE).flatten))] (pB r0) [some (.box 156 [(.ptr 2 0)]),some (.box 3 [(pI ln)]),some (.box 158 [(pI k),(.own 3),(pI l),(pI f),(pI e)]),some (.row 78 R.length ((R.map rwE).flatten))]:=by
 subst Al;exact FMM.fi 4 gE func176 [bT,bT,bT,bF] (gc (bV h1) (A1 (dF h0) gn))
theorem bTa{R:List (List Cel)}(h0:e≠0)(Al:r0=(e == 0)):FMM Tp 176 [(pI fd),(pI er),(.ptr 0 0),(.ptr 1 0)] [some (.box 156 [(.ptr 2 0)]),some (.box 3 [(pI ln)]),some (.box 158 [(pI k),(.own 3),(pI l),(pI f),(pI e)]),some (.row 78 R.length ((R.map rwE).flatten))] (pB r0) [some (.box 156 [(.ptr 2 0)]),some (.box 3 [(pI ln)]),some (.box 158 [(pI k),(.own 3),(pI l),(pI f),(pI e)]),some (.row 78 R.length ((R.map rwE).flatten))]:=by
 subst Al;exact FMM.fi 4 gE func176 [bF,bF,bF] (A1 (bL h0) gn)
theorem eU{R:List (List Cel)}:FMM Tp 89 [(.ptr 0 0),(pI ln)] [some (.box 158 [(pI k),(.own 1),(pI l),(pI f),(pI e)]),some (.row 78 R.length ((R.map rwE).flatten))] (.fn 176 [] [(.ptr 2 0),(.ptr 3 0)]) [some (.box 158 [(pI k),(.own 1),(pI l),(pI f),(pI e)]),some (.row 78 R.length ((R.map rwE).flatten)),some (.box 156 [(.ptr 0 0)]),some (.box 3 [(pI ln)])]:=FMM.fi 2 ⟨[],[2,3],[],[]⟩ func89 [] gn
def aQ(ln fd er:Int)(s:Int × Int × Int):Int × Int × Int:=if s.2.2=0∧er≠0 then (ln,fd,er) else s
theorem cO(fd er ln k l f e:Int)(R:List (List Cel)):FMM Tp 176 [.p (aB fd),.p (aB er),.ptr 0 0,.ptr 1 0] [some (.box 156 [(.ptr 2 0)]),some (.box 3 [(pI ln)]),some (.box 158 [(pI k),(.own 3),(pI l),(pI f),(pI e)]),some (.row 78 R.length ((R.map rwE).flatten))] (pB ((aQ ln fd er (l,f,e)).2.2 == 0)) [some (.box 156 [(.ptr 2 0)]),some (.box 3 [(pI ln)]),some (.box 158 [(pI k),(.own 3),(pI ((aQ ln fd er (l,f,e)).1)),(pI ((aQ ln fd er (l,f,e)).2.1)),(pI ((aQ ln fd er (l,f,e)).2.2))]),some (.row 78 R.length ((R.map rwE).flatten))]:=by
 unfold aQ
 by_cases h:e=0
 ·by_cases h2:er=0
  ·rw [if_neg (by simp [h2])];exact bSz h h2 rfl
  ·rw [if_pos ⟨h,h2⟩];exact bSy h h2 rfl
 ·rw [if_neg (by simp [h])];exact bTa h rfl
def dN(s:List UInt8)(i:Nat):St:=⟨fr 19 [(0,(.arr 0 0 5)),(1,(.p (aD s))),(7,(pI 5)),(8,(pI (i:Int)))],[some (.box 207 [(.p (aD ([115,116,97,114,116,115]:List UInt8))),(.p (aD ([112,97,115,115,101,115]:List UInt8))),(.p (aD ([116,97,114,103,101,116,115]:List UInt8))),(.p (aD ([106,117,100,103,101,109,101,110,116,115]:List UInt8))),(.p (aD ([99,117,112,115]:List UInt8)))])]⟩
theorem bTb{s:List UInt8}(hl0:aF Tp 1 mV (dN s 0) (.exit 0) (dN s Aq)):FMM Tp 177 [(.arr 0 0 5),(.p (aD s))] [some (.box 207 [(.p (aD ([115,116,97,114,116,115]:List UInt8))),(.p (aD ([112,97,115,115,101,115]:List UInt8))),(.p (aD ([116,97,114,103,101,116,115]:List UInt8))),(.p (aD ([106,117,100,103,101,109,101,110,116,115]:List UInt8))),(.p (aD ([99,117,112,115]:List UInt8)))])] (pI (-1)) [some (.box 207 [(.p (aD ([115,116,97,114,116,115]:List UInt8))),(.p (aD ([112,97,115,115,101,115]:List UInt8))),(.p (aD ([116,97,114,103,101,116,115]:List UInt8))),(.p (aD ([106,117,100,103,101,109,101,110,116,115]:List UInt8))),(.p (aD ([99,117,112,115]:List UInt8)))])]:=FMM.fi 1 gE func177 [hl0.k 6 (gZ ce)] (gc hl0.code gn)
theorem aAc{s:List UInt8}(hl0:aF Tp 1 mV (dN s 0) .ret (cK (dN s Aq) [(4,(pI (Aq:Int)))])):FMM Tp 177 [(.arr 0 0 5),(.p (aD s))] [some (.box 207 [(.p (aD ([115,116,97,114,116,115]:List UInt8))),(.p (aD ([112,97,115,115,101,115]:List UInt8))),(.p (aD ([116,97,114,103,101,116,115]:List UInt8))),(.p (aD ([106,117,100,103,101,109,101,110,116,115]:List UInt8))),(.p (aD ([99,117,112,115]:List UInt8)))])] (pI (Aq:Int)) [some (.box 207 [(.p (aD ([115,116,97,114,116,115]:List UInt8))),(.p (aD ([112,97,115,115,101,115]:List UInt8))),(.p (aD ([116,97,114,103,101,116,115]:List UInt8))),(.p (aD ([106,117,100,103,101,109,101,110,116,115]:List UInt8))),(.p (aD ([99,117,112,115]:List UInt8)))])]:=FMM.fi 1 gE func177 [hl0.k 6 (gZ ce)] (gc hl0.code gn)
theorem aWr{s:List UInt8}(Ar:i=0)(h1:s=([115,116,97,114,116,115]:List UInt8))(Aj:i'=0):aA Tp 1 mV (dN s i) .ret (cK (dN s i') [(4,(pI 0))]):=by
 subst Ar;subst Aj;exact aA.fi (gZ bq) [bT,bT] (gt ((decide (s=([115,116,97,114,116,115]:List UInt8)))=true) (decide_eq_true h1) (gc bOw (gc bOx gn)))
theorem mW{s:List UInt8}(Ar:i=0)(h1:s≠([115,116,97,114,116,115]:List UInt8))(Aj:i'=1):aA Tp 1 mV (dN s i) .normal (dN s i'):=by
 subst Ar;subst Aj;exact aA.fi (gZ ce) [bT,bF] (gt (inR 1) (by show _∧_;omega) (gt ((decide (s=([115,116,97,114,116,115]:List UInt8)))=false) (decide_eq_false h1) (gc bOw (gc bOx gn))))
theorem aWs{s:List UInt8}(Ar:i=1)(h1:s=([112,97,115,115,101,115]:List UInt8))(Aj:i'=1):aA Tp 1 mV (dN s i) .ret (cK (dN s i') [(4,(pI 1))]):=by
 subst Ar;subst Aj;exact aA.fi (gZ bq) [bT,bT] (gt ((decide (s=([112,97,115,115,101,115]:List UInt8)))=true) (decide_eq_true h1) (gc bOy (gc bOz gn)))
theorem qT{s:List UInt8}(Ar:i=1)(h1:s≠([112,97,115,115,101,115]:List UInt8))(Aj:i'=2):aA Tp 1 mV (dN s i) .normal (dN s i'):=by
 subst Ar;subst Aj;exact aA.fi (gZ ce) [bT,bF] (gt (inR 2) (by show _∧_;omega) (gt ((decide (s=([112,97,115,115,101,115]:List UInt8)))=false) (decide_eq_false h1) (gc bOy (gc bOz gn))))
theorem aWt{s:List UInt8}(Ar:i=2)(h1:s=([116,97,114,103,101,116,115]:List UInt8))(Aj:i'=2):aA Tp 1 mV (dN s i) .ret (cK (dN s i') [(4,(pI 2))]):=by
 subst Ar;subst Aj;exact aA.fi (gZ bq) [bT,bT] (gt ((decide (s=([116,97,114,103,101,116,115]:List UInt8)))=true) (decide_eq_true h1) (gc bPa (gc bPb gn)))
theorem vL{s:List UInt8}(Ar:i=2)(h1:s≠([116,97,114,103,101,116,115]:List UInt8))(Aj:i'=3):aA Tp 1 mV (dN s i) .normal (dN s i'):=by
 subst Ar;subst Aj;exact aA.fi (gZ ce) [bT,bF] (gt (inR 3) (by show _∧_;omega) (gt ((decide (s=([116,97,114,103,101,116,115]:List UInt8)))=false) (decide_eq_false h1) (gc bPa (gc bPb gn))))
theorem aWu{s:List UInt8}(Ar:i=3)(h1:s=([106,117,100,103,101,109,101,110,116,115]:List UInt8))(Aj:i'=3):aA Tp 1 mV (dN s i) .ret (cK (dN s i') [(4,(pI 3))]):=by
 subst Ar;subst Aj;exact aA.fi (gZ bq) [bT,bT] (gt ((decide (s=([106,117,100,103,101,109,101,110,116,115]:List UInt8)))=true) (decide_eq_true h1) (gc bPc (gc bPd gn)))
theorem aDg{s:List UInt8}(Ar:i=3)(h1:s≠([106,117,100,103,101,109,101,110,116,115]:List UInt8))(Aj:i'=4):aA Tp 1 mV (dN s i) .normal (dN s i'):=by
 subst Ar;subst Aj;exact aA.fi (gZ ce) [bT,bF] (gt (inR 4) (by show _∧_;omega) (gt ((decide (s=([106,117,100,103,101,109,101,110,116,115]:List UInt8)))=false) (decide_eq_false h1) (gc bPc (gc bPd gn))))
theorem aWv{s:List UInt8}(Ar:i=4)(h1:s=([99,117,112,115]:List UInt8))(Aj:i'=4):aA Tp 1 mV (dN s i) .ret (cK (dN s i') [(4,(pI 4))]):=by
 subst Ar;subst Aj;exact aA.fi (gZ bq) [bT,bT] (gt ((decide (s=([99,117,112,115]:List UInt8)))=true) (decide_eq_true h1) (gc bPe (gc bPf gn)))
theorem aWw{s:List UInt8}(Ar:i=4)(h1:s≠([99,117,112,115]:List UInt8))(Aj:i'=5):aA Tp 1 mV (dN s i) .normal (dN s i'):=by
 subst Ar;subst Aj;exact aA.fi (gZ ce) [bT,bF] (gt (inR 5) (by show _∧_;omega) (gt ((decide (s=([99,117,112,115]:List UInt8)))=false) (decide_eq_false h1) (gc bPe (gc bPf gn))))
theorem aNp{s:List UInt8}(Ar:i=5)(Aj:i'=5):aA Tp 1 mV (dN s i) (.exit 0) (dN s i'):=by
 subst Ar;subst Aj;exact aA.fi (gZ ce) [bF] (gt ((decide ((5:Int)<5))=false) (by first | decide | simp) gn)
def dS(s:List UInt8):Int:=if s=([115,116,97,114,116,115]:List UInt8) then 0 else if s=([112,97,115,115,101,115]:List UInt8) then 1 else if s=([116,97,114,103,101,116,115]:List UInt8) then 2 else if s=([106,117,100,103,101,109,101,110,116,115]:List UInt8) then 3 else if s=([99,117,112,115]:List UInt8) then 4 else -1
theorem bFo(s:List UInt8):FMM Tp 177 [.arr 0 0 5,.p (aD s)] [some (.box 207 [(.p (aD ([115,116,97,114,116,115]:List UInt8))),(.p (aD ([112,97,115,115,101,115]:List UInt8))),(.p (aD ([116,97,114,103,101,116,115]:List UInt8))),(.p (aD ([106,117,100,103,101,109,101,110,116,115]:List UInt8))),(.p (aD ([99,117,112,115]:List UInt8)))])] (pI (dS s)) [some (.box 207 [(.p (aD ([115,116,97,114,116,115]:List UInt8))),(.p (aD ([112,97,115,115,101,115]:List UInt8))),(.p (aD ([116,97,114,103,101,116,115]:List UInt8))),(.p (aD ([106,117,100,103,101,109,101,110,116,115]:List UInt8))),(.p (aD ([99,117,112,115]:List UInt8)))])]:=by
 unfold dS
 by_cases h0:s=([115,116,97,114,116,115]:List UInt8)
 ·rw [if_pos h0];exact aAc (Aq:=0) (.exit (aWr rfl h0 rfl) (by simp))
 ·rw [if_neg h0]
  by_cases h1:s=([112,97,115,115,101,115]:List UInt8)
  ·rw [if_pos h1];exact aAc (Aq:=1) (.step (mW rfl h0 rfl) (.exit (aWs rfl h1 rfl) (by simp)))
  ·rw [if_neg h1]
   by_cases h2:s=([116,97,114,103,101,116,115]:List UInt8)
   ·rw [if_pos h2];exact aAc (Aq:=2) (.step (mW rfl h0 rfl) (.step (qT rfl h1 rfl) (.exit (aWt rfl h2 rfl) (by simp))))
   ·rw [if_neg h2]
    by_cases h3:s=([106,117,100,103,101,109,101,110,116,115]:List UInt8)
    ·rw [if_pos h3];exact aAc (Aq:=3) (.step (mW rfl h0 rfl) (.step (qT rfl h1 rfl) (.step (vL rfl h2 rfl) (.exit (aWu rfl h3 rfl) (by simp)))))
    ·rw [if_neg h3]
     by_cases h4:s=([99,117,112,115]:List UInt8)
     ·rw [if_pos h4];exact aAc (Aq:=4) (.step (mW rfl h0 rfl) (.step (qT rfl h1 rfl) (.step (vL rfl h2 rfl) (.step (aDg rfl h3 rfl) (.exit (aWv rfl h4 rfl) (by simp))))))
     ·rw [if_neg h4];exact bTb (.step (mW rfl h0 rfl) (.step (qT rfl h1 rfl) (.step (vL rfl h2 rfl) (.step (aDg rfl h3 rfl) (.step (aWw rfl h4 rfl) (.exit (aNp rfl rfl) (by simp)))))))
end
section
variable {k e1 f1 kd l1 ln my B7 Cb H0 Cc H1:Int}{i i':Nat}

noncomputable abbrev jM:Code:=sub (cd Tryz.f90) [1,0,1,1,1,0,1,0,0]
theorem bEx:(decide ((0:Int)<3))=true:=by first | decide | simp
theorem bEy:(decide ((1:Int)<3))=true:=by first | decide | simp
theorem bEz:(decide ((2:Int)<3))=true:=by first | decide | simp
theorem bOv:(decide ((3:Int)<3))=false:=by first | decide | simp
theorem aQp:inR (1:Int):=by unfold inR;omega
theorem aQq:inR (2:Int):=by unfold inR;omega
theorem aQr:inR (3:Int):=by unfold inR;omega
theorem bFa:(decide ((0:Int)<4))=true:=by first | decide | simp
theorem bFb:(decide ((1:Int)<4))=true:=by first | decide | simp
theorem bFc:(decide ((2:Int)<4))=true:=by first | decide | simp
theorem aNi:inR (4:Int):=by unfold inR;omega
theorem bFd:((0:Int) == 0)=true:=by first | decide | simp
theorem bFe:((1:Int) == 1)=true:=by first | decide | simp
theorem bFf:((1:Int) == 0)=false:=by first | decide | simp
theorem bFg:((2:Int) == 2)=true:=by first | decide | simp
theorem bFh:((2:Int) == 1)=false:=by first | decide | simp
theorem bFi:((2:Int) == 0)=false:=by first | decide | simp
theorem bFj:((3:Int) == 2)=false:=by first | decide | simp
theorem bFk:((3:Int) == 1)=false:=by first | decide | simp
theorem bFl:((3:Int) == 0)=false:=by first | decide | simp
theorem bFm:(decide ((3:Int)<4))=true:=by first | decide | simp
def cX(fs:List (List UInt8))(ln k:Int)(R:List (List Cel))(i:Nat)(kd my l1 f1 e1:Int):St:=⟨fr 70 [(0,(.ptr 0 0)),(1,(.p (.sl fs.length ((fs.map stE).flatten)))),(2,(.fn 176 [] [(.ptr 2 0),(.ptr 3 0)])),(6,(pI 0)),(7,(.ptr 4 0)),(8,(pI kd)),(9,(pI my)),(13,(pI (i:Int)))],[some (.box 158 [(pI k),(.own 1),(pI l1),(pI f1),(pI e1)]),some (.row 78 R.length ((R.map rwE).flatten)),some (.box 156 [(.ptr 0 0)]),some (.box 3 [(pI ln)]),some (.box 207 [(.p (aD ([115,116,97,114,116,115]:List UInt8))),(.p (aD ([112,97,115,115,101,115]:List UInt8))),(.p (aD ([116,97,114,103,101,116,115]:List UInt8))),(.p (aD ([106,117,100,103,101,109,101,110,116,115]:List UInt8))),(.p (aD ([99,117,112,115]:List UInt8)))])]⟩
theorem pN{fs:List (List UInt8)}{l f e:Int}{R:List (List Cel)}{Aq:Nat}{I3 Ke l1'3 f1'4 e1'5 r0:Int}(hl0:aF Tp 4 jM (cX fs ln k R 0 (-1) 0 l f e) (.exit 0) (cX fs ln k R Aq I3 Ke l1'3 f1'4 e1'5))(Al:r0=(if I3 > 0 then I3 else 0)):FMM Tp 90 [(.ptr 0 0),(.p (.sl fs.length ((fs.map stE).flatten))),(.fn 176 [] [(.ptr 2 0),(.ptr 3 0)])] [some (.box 158 [(pI k),(.own 1),(pI l),(pI f),(pI e)]),some (.row 78 R.length ((R.map rwE).flatten)),some (.box 156 [(.ptr 0 0)]),some (.box 3 [(pI ln)])] (pI Ke) [some (.box 158 [(pI r0),(.own 1),(pI l1'3),(pI f1'4),(pI e1'5)]),some (.row 78 R.length ((R.map rwE).flatten)),some (.box 156 [(.ptr 0 0)]),some (.box 3 [(pI ln)])]:=by
 subst Al;have k1:=fk 4 (jW) rfl;exact FMM.fi 4 gE func90 [k1.o,hl0.k 7 (gI bj [4])] (gc hl0.code (gc k1 gn))
theorem aWl{fs:List (List UInt8)}{R:List (List Cel)}(Ar:i=0)(h1:(fs.length:Int)≤0)(Aj:i'=0)(A4:Cc=((aQ ln 1 11 (l1,f1,e1)).1))(A5:Cb=((aQ ln 1 11 (l1,f1,e1)).2.1))(A6:B7=((aQ ln 1 11 (l1,f1,e1)).2.2)):aA Tp 4 jM (cX fs ln k R i kd my l1 f1 e1) (.exit 0) (cX fs ln k R i' kd my Cc Cb B7):=by
 subst Ar;subst Aj A4 A5 A6;have k1:=mq cj 5 (cO 1 11 ln k l1 f1 e1 R);exact aA.fi (gI bj [4]) (rT 7++[k1.o]) (gc k1 (gc aQp (gc (mD h1) (Cy bEx (gc bFa gn)))))
section
variable{fs:List (List UInt8)}{Aa:List UInt8}(Ar:i=0)(h1:(0:Int)<(fs.length:Int))(h2:fs[0]? = some (Aa))
include Ar h1 h2
theorem aWm{R:List (List Cel)}(h3:Aa≠([107,108,105,115,116,101,114]:List UInt8))(h4:((aQ ln 1 11 (l1,f1,e1)).2.2)≠0)(Aj:i'=0)(A4:Cc=((aQ ln 1 11 (l1,f1,e1)).1))(A5:Cb=((aQ ln 1 11 (l1,f1,e1)).2.1))(A6:B7=((aQ ln 1 11 (l1,f1,e1)).2.2)):aA Tp 4 jM (cX fs ln k R i kd my l1 f1 e1) (.exit 0) (cX fs ln k R i' kd my Cc Cb B7):=by
 subst Ar;subst Aj A4 A5 A6;have k1:=mq cj 5 (cO 1 11 ln k l1 f1 e1 R);exact aA.fi (gI bj [4]) (rT 6++[bF,bT,.x (aD Aa),bT,k1.o,bT]) (gc (cZ (bL h4)) (gc k1 (gc aQp (gc (cZ (decide_eq_false h3)) (gt (((fs.map stE).flatten)[0]? = some (aD Aa)) (aM (E:=stE) (i:=0) (f:=0) (k:=1) (fun _=>rfl) h2 rfl) (gc (bD (E:=stE) (k:=1) (i:=(0:Int)) (fun _=>rfl) (by decide) (by first | decide | simp) h2) (gc bFd (gc (eE h1) (Cy bEx (gc bFa gn))))))))))
theorem aWn{R:List (List Cel)}(h3:Aa=([107,108,105,115,116,101,114]:List UInt8))(h4:((aQ ln 1 0 (l1,f1,e1)).2.2)=0)(Aj:i'=1)(A4:Cc=((aQ ln 1 0 (l1,f1,e1)).1))(A5:Cb=((aQ ln 1 0 (l1,f1,e1)).2.1))(A6:B7=((aQ ln 1 0 (l1,f1,e1)).2.2)):aA Tp 4 jM (cX fs ln k R i kd my l1 f1 e1) .normal (cX fs ln k R i' kd my Cc Cb B7):=by
 subst Ar;subst Aj A4 A5 A6;have k1:=mq cj 5 (cO 1 0 ln k l1 f1 e1 R);exact aA.fi (gI bj [4]) (rT 6++[bF,bT,.x (aD Aa),bF,k1.o,bF]) (gc aQp (gc (aX (dF h4)) (gc k1 (gc aQp (gc (aX (decide_eq_true h3)) (gt (((fs.map stE).flatten)[0]? = some (aD Aa)) (aM (E:=stE) (i:=0) (f:=0) (k:=1) (fun _=>rfl) h2 rfl) (gc (bD (E:=stE) (k:=1) (i:=(0:Int)) (fun _=>rfl) (by decide) (by first | decide | simp) h2) (gc bFd (gc (eE h1) (Cy bEx (gc bFa gn)))))))))))
end
theorem aWo{fs:List (List UInt8)}{R:List (List Cel)}(Ar:i=1)(h1:(fs.length:Int)≤1)(Aj:i'=1)(A4:Cc=((aQ ln 2 11 (l1,f1,e1)).1))(A5:Cb=((aQ ln 2 11 (l1,f1,e1)).2.1))(A6:B7=((aQ ln 2 11 (l1,f1,e1)).2.2)):aA Tp 4 jM (cX fs ln k R i kd my l1 f1 e1) (.exit 0) (cX fs ln k R i' kd my Cc Cb B7):=by
 subst Ar;subst Aj A4 A5 A6;have k1:=mq cj 5 (cO 2 11 ln k l1 f1 e1 R);exact aA.fi (gI bj [4]) (rT 7++[k1.o]) (gc k1 (gc aQq (gc (mD h1) (Cy bEy (gc bFb gn)))))
section
variable{fs:List (List UInt8)}{Aa:List UInt8}(Ar:i=1)(h1:(1:Int)<(fs.length:Int))(h2:fs[1]? = some (Aa))
include Ar h1 h2
theorem aWp{R:List (List Cel)}(h3:(dS Aa)<0)(h4:((aQ ln 2 12 (l1,f1,e1)).2.2)≠0)(Aj:i'=1)(Fp:H0=(dS Aa))(A4:Cc=((aQ ln 2 12 (l1,f1,e1)).1))(A5:Cb=((aQ ln 2 12 (l1,f1,e1)).2.1))(A6:B7=((aQ ln 2 12 (l1,f1,e1)).2.2)):aA Tp 4 jM (cX fs ln k R i kd my l1 f1 e1) (.exit 0) (cX fs ln k R i' H0 my Cc Cb B7):=by
 subst Ar;subst Aj Fp A4 A5 A6;have k1:=mq [4] 5 (bFo Aa);have k2:=mq cj 5 (cO 2 12 ln k l1 f1 e1 R);exact aA.fi (gI bj [4]) (rT 6++[bF,bF,bT,.x (aD Aa),k1.o,bT,k2.o,bT]) (gc (cZ (bL h4)) (gc k2 (gc aQq (gc (cN h3) (gc k1 (gt (((fs.map stE).flatten)[1]? = some (aD Aa)) (aM (E:=stE) (i:=1) (f:=0) (k:=1) (fun _=>rfl) h2 rfl) (gc (bD (E:=stE) (k:=1) (i:=(1:Int)) (fun _=>rfl) (by decide) (by first | decide | simp) h2) (gt (0≤(0:Int)∧(0:Int)≤5∧(5:Int)≤5∧5≤maxLen) (by unfold maxLen;omega) (gc bFe (gc bFf (gc (eE h1) (Cy bEy (gc bFb gn)))))))))))))
theorem aWq{R:List (List Cel)}(h3:(0:Int)≤(dS Aa))(h4:((aQ ln 2 0 (l1,f1,e1)).2.2)=0)(Aj:i'=2)(Fp:H0=(dS Aa))(A4:Cc=((aQ ln 2 0 (l1,f1,e1)).1))(A5:Cb=((aQ ln 2 0 (l1,f1,e1)).2.1))(A6:B7=((aQ ln 2 0 (l1,f1,e1)).2.2)):aA Tp 4 jM (cX fs ln k R i kd my l1 f1 e1) .normal (cX fs ln k R i' H0 my Cc Cb B7):=by
 subst Ar;subst Aj Fp A4 A5 A6;have k1:=mq [4] 5 (bFo Aa);have k2:=mq cj 5 (cO 2 0 ln k l1 f1 e1 R);exact aA.fi (gI bj [4]) (rT 6++[bF,bF,bT,.x (aD Aa),k1.o,bF,k2.o,bF]) (gc aQq (gc (aX (dF h4)) (gc k2 (gc aQq (gc (bC h3) (gc k1 (gt (((fs.map stE).flatten)[1]? = some (aD Aa)) (aM (E:=stE) (i:=1) (f:=0) (k:=1) (fun _=>rfl) h2 rfl) (gc (bD (E:=stE) (k:=1) (i:=(1:Int)) (fun _=>rfl) (by decide) (by first | decide | simp) h2) (gt (0≤(0:Int)∧(0:Int)≤5∧(5:Int)≤5∧5≤maxLen) (by unfold maxLen;omega) (gc bFe (gc bFf (gc (eE h1) (Cy bEy (gc bFb gn))))))))))))))
end
theorem aNj{fs:List (List UInt8)}{R:List (List Cel)}(Ar:i=2)(h1:(fs.length:Int)≤2)(Aj:i'=2)(A4:Cc=((aQ ln 3 11 (l1,f1,e1)).1))(A5:Cb=((aQ ln 3 11 (l1,f1,e1)).2.1))(A6:B7=((aQ ln 3 11 (l1,f1,e1)).2.2)):aA Tp 4 jM (cX fs ln k R i kd my l1 f1 e1) (.exit 0) (cX fs ln k R i' kd my Cc Cb B7):=by
 subst Ar;subst Aj A4 A5 A6;have k1:=mq cj 5 (cO 3 11 ln k l1 f1 e1 R);exact aA.fi (gI bj [4]) (rT 7++[k1.o]) (gc k1 (gc aQr (gc (mD h1) (Cy bEz (gc bFc gn)))))
section
variable{fs:List (List UInt8)}{Aa:List UInt8}(Ar:i=2)(h1:(2:Int)<(fs.length:Int))(h2:fs[2]? = some (Aa))(h3:0≤(200:Int)∧(200:Int)≤1000000000)
include Ar h1 h2 h3
theorem aNk{R:List (List Cel)}(h4:((aQ ln 3 ((bH Aa 200).2) (l1,f1,e1)).2.2)≠0)(Aj:i'=2)(Fq:H1=((bH Aa 200).1))(A4:Cc=((aQ ln 3 ((bH Aa 200).2) (l1,f1,e1)).1))(A5:Cb=((aQ ln 3 ((bH Aa 200).2) (l1,f1,e1)).2.1))(A6:B7=((aQ ln 3 ((bH Aa 200).2) (l1,f1,e1)).2.2)):aA Tp 4 jM (cX fs ln k R i kd my l1 f1 e1) (.exit 0) (cX fs ln k R i' kd H1 Cc Cb B7):=by
 subst Ar;subst Aj Fq A4 A5 A6;have k1:=fk 5 (fY Aa 200 h3) rfl;have k2:=mq cj 5 (cO 3 ((bH Aa 200).2) ln k l1 f1 e1 R);exact aA.fi (gI bj [4]) (rT 6++[bF,bF,bF,bT,.x (aD Aa),k1.o,k2.o,bT]) (gc (cZ (bL h4)) (gc k2 (gc aQr (gc k1 (gt (((fs.map stE).flatten)[2]? = some (aD Aa)) (aM (E:=stE) (i:=2) (f:=0) (k:=1) (fun _=>rfl) h2 rfl) (gc (bD (E:=stE) (k:=1) (i:=(2:Int)) (fun _=>rfl) (by decide) (by first | decide | simp) h2) (gc bFg (gc bFh (gc bFi (gc (eE h1) (Cy bEz (gc bFc gn))))))))))))
theorem aNl{R:List (List Cel)}(h4:((aQ ln 3 ((bH Aa 200).2) (l1,f1,e1)).2.2)=0)(Aj:i'=3)(Fq:H1=((bH Aa 200).1))(A4:Cc=((aQ ln 3 ((bH Aa 200).2) (l1,f1,e1)).1))(A5:Cb=((aQ ln 3 ((bH Aa 200).2) (l1,f1,e1)).2.1))(A6:B7=((aQ ln 3 ((bH Aa 200).2) (l1,f1,e1)).2.2)):aA Tp 4 jM (cX fs ln k R i kd my l1 f1 e1) .normal (cX fs ln k R i' kd H1 Cc Cb B7):=by
 subst Ar;subst Aj Fq A4 A5 A6;have k1:=fk 5 (fY Aa 200 h3) rfl;have k2:=mq cj 5 (cO 3 ((bH Aa 200).2) ln k l1 f1 e1 R);exact aA.fi (gI bj [4]) (rT 6++[bF,bF,bF,bT,.x (aD Aa),k1.o,k2.o,bF]) (gc aQr (gc (aX (dF h4)) (gc k2 (gc aQr (gc k1 (gt (((fs.map stE).flatten)[2]? = some (aD Aa)) (aM (E:=stE) (i:=2) (f:=0) (k:=1) (fun _=>rfl) h2 rfl) (gc (bD (E:=stE) (k:=1) (i:=(2:Int)) (fun _=>rfl) (by decide) (by first | decide | simp) h2) (gc bFg (gc bFh (gc bFi (gc (eE h1) (Cy bEz (gc bFc gn)))))))))))))
end
theorem aNm{fs:List (List UInt8)}{R:List (List Cel)}(Ar:i=3)(h1:(3:Int)<(fs.length:Int))(h2:((aQ ln 4 11 (l1,f1,e1)).2.2)≠0)(Aj:i'=3)(A4:Cc=((aQ ln 4 11 (l1,f1,e1)).1))(A5:Cb=((aQ ln 4 11 (l1,f1,e1)).2.1))(A6:B7=((aQ ln 4 11 (l1,f1,e1)).2.2)):aA Tp 4 jM (cX fs ln k R i kd my l1 f1 e1) (.exit 0) (cX fs ln k R i' kd my Cc Cb B7):=by
 subst Ar;subst Aj A4 A5 A6;have k1:=mq cj 5 (cO 4 11 ln k l1 f1 e1 R);exact aA.fi (gI bj [4]) ([bT]++rF 8++[bT,k1.o,bT]) (gc (cZ (bL h2)) (gc k1 (gc aNi (gc (cN h1) (gc bFj (gc bFk (gc bFl (Cy bOv (gc bFm gn)))))))))
theorem aNn{fs:List (List UInt8)}{R:List (List Cel)}(Ar:i=3)(h1:(fs.length:Int)≤3)(h2:((aQ ln 4 0 (l1,f1,e1)).2.2)=0)(Aj:i'=4)(A4:Cc=((aQ ln 4 0 (l1,f1,e1)).1))(A5:Cb=((aQ ln 4 0 (l1,f1,e1)).2.1))(A6:B7=((aQ ln 4 0 (l1,f1,e1)).2.2)):aA Tp 4 jM (cX fs ln k R i kd my l1 f1 e1) .normal (cX fs ln k R i' kd my Cc Cb B7):=by
 subst Ar;subst Aj A4 A5 A6;have k1:=mq cj 5 (cO 4 0 ln k l1 f1 e1 R);exact aA.fi (gI bj [4]) ([bT]++rF 9++[k1.o,bF]) (gc aNi (gc (aX (dF h2)) (gc k1 (gc aNi (gc (bC h1) (gc bFj (gc bFk (gc bFl (Cy bOv (gc bFm gn))))))))))
theorem aNo{fs:List (List UInt8)}{R:List (List Cel)}(Ar:i=4)(Aj:i'=4):aA Tp 4 jM (cX fs ln k R i kd my l1 f1 e1) (.exit 0) (cX fs ln k R i' kd my l1 f1 e1):=by
 subst Ar;subst Aj;exact aA.fi (gI bj [4]) [bF] (gt ((decide ((4:Int)<4))=false) (by first | decide | simp) gn)
def fld(fs:List (List UInt8))(j:Nat):List UInt8:=(fs[j]?).getD []
theorem aAb{fs:List (List UInt8)}{j:Nat}(h:j<fs.length):fs[j]? = some (fld fs j):=by
 unfold fld;rw [B4 h];rfl
def hdM(fs:List (List UInt8)):Int × Int × Int × Int :=
 if fs.length=0∨fld fs 0≠[107,108,105,115,116,101,114] then (-1,0,1,11)
 else if fs.length=1 then (-1,0,2,11)
 else if dS (fld fs 1)<0 then (dS (fld fs 1),0,2,12)
 else if fs.length=2 then (dS (fld fs 1),0,3,11)
 else if (bH (fld fs 2) 200).2≠0 then (dS (fld fs 1),(bH (fld fs 2) 200).1,3,(bH (fld fs 2) 200).2)
 else if 3<fs.length then (dS (fld fs 1),(bH (fld fs 2) 200).1,4,11)
 else (dS (fld fs 1),(bH (fld fs 2) 200).1,0,0)
theorem Im(ln fd l f:Int):aQ ln fd 0 (l,f,0)=(l,f,0):=rfl
theorem Es{er:Int}(ln fd l f:Int)(h:er≠0):aQ ln fd er (l,f,0)=(ln,fd,er):=if_pos ⟨rfl,h⟩
def Dm(k:Int):Int:=if k > 0 then k else 0
theorem bFn (fs:List (List UInt8)) (ln k l f:Int) (R:List (List Cel)):FMM Tp 90 [.ptr 0 0,.p (.sl fs.length ((fs.map stE).flatten)),.fn 176 [] [.ptr 2 0,.ptr 3 0]] [some (.box 158 [(pI k),(.own 1),(pI l),(pI f),(pI 0)]),some (.row 78 R.length ((R.map rwE).flatten)),some (.box 156 [(.ptr 0 0)]),some (.box 3 [(pI ln)])]
  (.p (aB (hdM fs).2.1)) [some (.box 158 [(pI (Dm (hdM fs).1)),(.own 1),(pI ((aQ ln (hdM fs).2.2.1 (hdM fs).2.2.2 (l,f,0)).1)),(pI ((aQ ln (hdM fs).2.2.1 (hdM fs).2.2.2 (l,f,0)).2.1)),(pI ((aQ ln (hdM fs).2.2.1 (hdM fs).2.2.2 (l,f,0)).2.2))]),some (.row 78 R.length ((R.map rwE).flatten)),some (.box 156 [(.ptr 0 0)]),some (.box 3 [(pI ln)])]:=by
 have t1:∀ fd er,er≠0→aQ ln fd er (l,f,0)=(ln,fd,er):=fun fd er h=>Es ln fd l f h
 have a0:∀ fd,l=(aQ ln fd 0 (l,f,0)).1:=fun _=>rfl
 unfold hdM
 by_cases h0:fs.length=0
 ·rw [if_pos (.inl h0)]
  exact pN (.exit (aWl rfl (by omega) rfl rfl rfl rfl) (by simp)) rfl
 ·have f0:=aAb (fs:=fs) (j:=0) (by omega)
  by_cases h1:fld fs 0=[107,108,105,115,116,101,114]
  ·rw [if_neg (by simp [h0,h1])]
   have s0:aA Tp 4 jM (cX fs ln k R 0 (-1) 0 l f 0) .normal (cX fs ln k R 1 (-1) 0 l f 0):=aWn rfl (by omega) f0 h1 rfl rfl rfl rfl rfl
   by_cases h2:fs.length=1
   ·rw [if_pos h2]
    exact pN (.step s0 (.exit (aWo rfl (by omega) rfl rfl rfl rfl) (by simp))) rfl
   ·rw [if_neg h2]
    have f1:=aAb (fs:=fs) (j:=1) (by omega)
    by_cases h3:dS (fld fs 1)<0
    ·rw [if_pos h3]
     exact pN (.step s0 (.exit (aWp rfl (by omega) f1 h3 (by rw [t1 _ _ (by decide)];simp) rfl rfl rfl rfl rfl) (by simp))) rfl
    ·rw [if_neg h3]
     have s1:aA Tp 4 jM (cX fs ln k R 1 (-1) 0 l f 0) .normal (cX fs ln k R 2 (dS (fld fs 1)) 0 l f 0):=aWq rfl (by omega) f1 (by omega) rfl rfl rfl rfl rfl rfl
     by_cases h4:fs.length=2
     ·rw [if_pos h4]
      exact pN (.step s0 (.step s1 (.exit (aNj rfl (by omega) rfl rfl rfl rfl) (by simp)))) rfl
     ·rw [if_neg h4]
      have f2:=aAb (fs:=fs) (j:=2) (by omega)
      by_cases h5:(bH (fld fs 2) 200).2=0
      ·rw [if_neg (by simp [h5])]
       have s2:aA Tp 4 jM (cX fs ln k R 2 (dS (fld fs 1)) 0 l f 0) .normal (cX fs ln k R 3 (dS (fld fs 1)) (bH (fld fs 2) 200).1 l f 0):=aNl rfl (by omega) f2 (by omega) (by rw [h5];rfl) rfl rfl (by rw [h5];rfl) (by rw [h5];rfl) (by rw [h5];rfl)
       by_cases h6:3<fs.length
       ·rw [if_pos h6]
        exact pN (.step s0 (.step s1 (.step s2 (.exit (aNm rfl (by omega) (by rw [t1 _ _ (by decide)];simp) rfl rfl rfl rfl) (by simp))))) rfl
       ·rw [if_neg h6]
        have s3:aA Tp 4 jM (cX fs ln k R 3 (dS (fld fs 1)) (bH (fld fs 2) 200).1 l f 0) .normal (cX fs ln k R 4 (dS (fld fs 1)) (bH (fld fs 2) 200).1 l f 0):=aNn rfl (by omega) rfl rfl rfl rfl rfl
        exact pN (.step s0 (.step s1 (.step s2 (.step s3 (.exit (aNo rfl rfl) (by simp)))))) rfl
      ·rw [if_pos h5]
       have e:=t1 3 _ h5;have:=pN (fs:=fs) (ln:=ln) (k:=k) (l:=l) (f:=f) (e:=0) (R:=R) (.step s0 (.step s1 (.exit (aNk rfl (by omega) f2 (by omega) (by rw [e];exact h5) rfl rfl rfl rfl rfl) (by simp)))) rfl
       rw [e] at this
       have e2:=t1 3 _ h5;dsimp only at this ⊢
       rw [e2];exact this
  ·rw [if_pos (.inr h1)]
   exact pN (.exit (aWm rfl (by omega) f0 h1 (by rw [t1 _ _ (by decide)];simp) rfl rfl rfl rfl) (by simp)) rfl
end
section
variable {e f k l e1 f1 l1 ln r0 r1 r2 sm B7 Cb Cc e1'4 f1'3 l1'2:Int}{i i' Aq:Nat}

noncomputable abbrev jL:Code:=sub (cd Tryz.f91) [1,1,1,1,0,1,0,0]
theorem bOr:0≤(0:Int)∧(0:Int)<4:=by first | decide | simp
theorem bOs:0≤(1:Int)∧(1:Int)<4:=by first | decide | simp
theorem bOt:0≤(2:Int)∧(2:Int)<4:=by first | decide | simp
theorem bOu:0≤(3:Int)∧(3:Int)<4:=by first | decide | simp
def cW(fs:List (List UInt8))(ln k:Int)(R:List (List Cel))(i on:Nat)(oc:List PV)(l1 f1 e1:Int):St:=⟨fr 77 [(0,(.ptr 0 0)),(1,(.p (.sl fs.length ((fs.map stE).flatten)))),(2,(.fn 176 [] [(.ptr 2 0),(.ptr 3 0)])),(8,(.p (bK (aJ k)))),(10,(.ptr 4 0)),(11,(.own 5)),(26,(pI ((aJ k).length:Int))),(27,(pI (i:Int)))],[some (.box 158 [(pI k),(.own 1),(pI l1),(pI f1),(pI e1)]),some (.row 78 R.length ((R.map rwE).flatten)),some (.box 156 [(.ptr 0 0)]),some (.box 3 [(pI ln)]),some (.box 214 [(.fn 224 [] [(.rp [(PV.fn 188 [] [])] 0)]),(.fn 225 [] [(.rp [(PV.fn 120 [] [])] 0)]),(.fn 226 [] [(.rp [(aB 999999)] 0)]),(.fn 224 [] [(.rp [(PV.fn 39 [] [])] 0)]),(.fn 225 [] [(.rp [(PV.fn 189 [] [])] 0)]),(.fn 226 [] [(.rp [(aB 360000)] 0)]),(.fn 227 [] [(.rp [(PV.fn 191 [] [])] 0)]),(.fn 228 [] []),(.fn 229 [] [(.rp [(PV.fn 191 [] [])] 0)]),(.fn 227 [] [(.rp [(PV.fn 192 [] [])] 0)]),(.fn 228 [] []),(.fn 229 [] [(.rp [(PV.fn 192 [] [])] 0)])]),some (.row 80 on oc)]⟩
section
variable{fs:List (List UInt8)}{R:List (List Cel)}{Ak:List Cel}(hl0:aF Tp 4 jL (cW fs ln k R 0 0 [] l f e) (.exit 0) (cW fs ln k R Aq Ak.length ((Ak.map cE).flatten) l1'2 f1'3 e1'4))
include hl0
theorem bSp(h1:(fs.length:Int)=((aJ k).length:Int)):FMM Tp 91 [(.ptr 0 0),(.p (.sl fs.length ((fs.map stE).flatten))),(.fn 176 [] [(.ptr 2 0),(.ptr 3 0)])] [some (.box 158 [(pI k),(.own 1),(pI l),(pI f),(pI e)]),some (.row 78 R.length ((R.map rwE).flatten)),some (.box 156 [(.ptr 0 0)]),some (.box 3 [(pI ln)])] (.tup [(.own 4),(pB true)]) [some (.box 158 [(pI k),(.own 1),(pI l1'2),(pI f1'3),(pI e1'4)]),some (.row 78 R.length ((R.map rwE).flatten)),some (.box 156 [(.ptr 0 0)]),some (.box 3 [(pI ln)]),some (.row 80 Ak.length ((Ak.map cE).flatten))]:=have k1:=fk 4 (eY k) rfl;have k2:=fk 4 (eK) rfl;FMM.fi 4 ⟨[],[5],[],[]⟩ func91 ([k1.o,k2.o,hl0.k 6 (gN b8 [4,5] [(11,80)])]++rT 6) (Ht (dF h1) (gc hl0.code (gc k2 (gc k1 gn))))
theorem bSq{r0:Bool}{r3:Int}(h1:(fs.length:Int)≠((aJ k).length:Int))(h2:inR ((((aJ k).length+1):Nat):Int))(Al:r0=(((aQ ln ((((aJ k).length+1):Nat):Int) 11 (l1'2,f1'3,e1'4)).2.2) == 0))(Dc:r1=((aQ ln ((((aJ k).length+1):Nat):Int) 11 (l1'2,f1'3,e1'4)).1))(D8:r2=((aQ ln ((((aJ k).length+1):Nat):Int) 11 (l1'2,f1'3,e1'4)).2.1))(Pz:r3=((aQ ln ((((aJ k).length+1):Nat):Int) 11 (l1'2,f1'3,e1'4)).2.2)):FMM Tp 91 [(.ptr 0 0),(.p (.sl fs.length ((fs.map stE).flatten))),(.fn 176 [] [(.ptr 2 0),(.ptr 3 0)])] [some (.box 158 [(pI k),(.own 1),(pI l),(pI f),(pI e)]),some (.row 78 R.length ((R.map rwE).flatten)),some (.box 156 [(.ptr 0 0)]),some (.box 3 [(pI ln)])] (.tup [(.own 4),(pB r0)]) [some (.box 158 [(pI k),(.own 1),(pI r1),(pI r2),(pI r3)]),some (.row 78 R.length ((R.map rwE).flatten)),some (.box 156 [(.ptr 0 0)]),some (.box 3 [(pI ln)]),some (.row 80 Ak.length ((Ak.map cE).flatten))]:=by
 subst Al Dc D8 Pz;have k1:=fk 4 (eY k) rfl;have k2:=fk 4 (eK) rfl;have k3:=mq cj 6 (cO ((((aJ k).length+1):Nat):Int) 11 ln k l1'2 f1'3 e1'4 R);exact FMM.fi 4 ⟨[],[5],[],[]⟩ func91 ([k1.o,k2.o,hl0.k 6 (gN b8 [4,5] [(11,80)])]++rF 5++[k3.o,bF]) (gc (bL h1) (gc k3 (gc (bL h1) (gc h2 (F6 (bL h1) (gc hl0.code (gc k2 (gc k1 gn))))))))
end
theorem bSr{fs:List (List UInt8)}{R:List (List Cel)}{Ak:List Cel}{r0:Bool}(hl0:aF Tp 4 jL (cW fs ln k R 0 0 [] l f e) .ret (cK (cW fs ln k R Aq Ak.length ((Ak.map cE).flatten) l1'2 f1'3 e1'4) [(6,(.p bM)),(7,(pB (e1'4 == 0)))]))(Al:r0=(e1'4 == 0)):FMM Tp 91 [(.ptr 0 0),(.p (.sl fs.length ((fs.map stE).flatten))),(.fn 176 [] [(.ptr 2 0),(.ptr 3 0)])] [some (.box 158 [(pI k),(.own 1),(pI l),(pI f),(pI e)]),some (.row 78 R.length ((R.map rwE).flatten)),some (.box 156 [(.ptr 0 0)]),some (.box 3 [(pI ln)])] (.tup [(.p bM),(pB r0)]) [some (.box 158 [(pI k),(.own 1),(pI l1'2),(pI f1'3),(pI e1'4)]),some (.row 78 R.length ((R.map rwE).flatten)),some (.box 156 [(.ptr 0 0)]),some (.box 3 [(pI ln)])]:=by
 subst Al;have k1:=fk 4 (eY k) rfl;have k2:=fk 4 (eK) rfl;exact FMM.fi 4 gE func91 [k1.o,k2.o,hl0.k 6 (gN b8 [4,5] [(11,80)])] (gc hl0.code (gc k2 (gc k1 gn)))
theorem aWb{fs:List (List UInt8)}{R:List (List Cel)}{o:List Cel}(h0:(i:Int)<((aJ k).length:Int))(h1:(fs.length:Int)≤(i:Int))(h2:co i)(A4:Cc=((aQ ln (((i+1):Nat):Int) 11 (l1,f1,e1)).1))(A5:Cb=((aQ ln (((i+1):Nat):Int) 11 (l1,f1,e1)).2.1))(A6:B7=((aQ ln (((i+1):Nat):Int) 11 (l1,f1,e1)).2.2)):aA Tp 4 jL (cW fs ln k R i o.length ((o.map cE).flatten) l1 f1 e1) .ret (cK (cW fs ln k R i o.length ((o.map cE).flatten) Cc Cb B7) [(6,(.p bM)),(7,(pB (((aQ ln (((i+1):Nat):Int) 11 (l1,f1,e1)).2.2) == 0)))]):=by
 subst A4 A5 A6;have k1:=mq cj 6 (cO (((i+1):Nat):Int) 11 ln k l1 f1 e1 R);exact aA.fi (gI b9 [4,5]) [bT,bT,k1.o] (gc k1 (gc h2 (gc (mD h1) (g0 h0))))
section
variable{fs:List (List UInt8)}(h0:(i:Int)<((aJ k).length:Int))(h1:(i:Int)<(fs.length:Int))
include h0 h1
theorem aWc{R:List (List Cel)}{o:List Cel}{Aa:List UInt8}(h2:(aJ k)[i]? = some 0)(h3:fs[i]? = some (Aa))(h4:co i)(h5:((aQ ln (((i+1):Nat):Int) ((rdM 0 Aa).2) (l1,f1,e1)).2.2)≠0)(A4:Cc=((aQ ln (((i+1):Nat):Int) ((rdM 0 Aa).2) (l1,f1,e1)).1))(A5:Cb=((aQ ln (((i+1):Nat):Int) ((rdM 0 Aa).2) (l1,f1,e1)).2.1))(A6:B7=((aQ ln (((i+1):Nat):Int) ((rdM 0 Aa).2) (l1,f1,e1)).2.2)):aA Tp 4 jL (cW fs ln k R i o.length ((o.map cE).flatten) l1 f1 e1) .ret (cK (cW fs ln k R i o.length ((o.map cE).flatten) Cc Cb B7) [(6,(.p bM)),(7,(pB false))]):=by
 subst A4 A5 A6;have k1:=fk 6 (bFx Aa) rfl;have k2:=mq cj 15 (cO (((i+1):Nat):Int) ((rdM 0 Aa).2) ln k l1 f1 e1 R);exact aA.fi (gN b9 [4,5] [(7,0)]) [bT,bF,.x (aB 0),.x (aD Aa),k1.o,k2.o,bT] (gc (cZ (bL h5)) (gc k2 (gc h4 (gc k1 (gt (((fs.map stE).flatten)[(i*1)]? = some (aD Aa)) (aM (E:=stE) (i:=i) (f:=0) (k:=1) (fun _=>rfl) h3 rfl) (gc (bD (E:=stE) (k:=1) (i:=(i:Int)) (fun _=>rfl) (by decide) (Bu _) h3) (gc bOr (gc (atm aB h2) (gc (ixn aB h2) (gc (eE h1) (g0 h0)))))))))))
theorem aWd{R:List (List Cel)}{o:List Cel}{Aa:List UInt8}{o':List Cel}(h2:(aJ k)[i]? = some 0)(h3:fs[i]? = some (Aa))(h4:co i)(h5:((aQ ln (((i+1):Nat):Int) ((rdM 0 Aa).2) (l1,f1,e1)).2.2)=0)(h6:[(aB ((rdM 0 Aa).1.1)),(aD ((rdM 0 Aa).1.2))].length=1*2∧o.length+1≤1000000)(Aj:i'=(i+1))(Dk:o'.length=(o.length+1))(Dl:(o'.map cE).flatten=(((o.map cE).flatten)++[(aB ((rdM 0 Aa).1.1)),(aD ((rdM 0 Aa).1.2))]))(A4:Cc=((aQ ln (((i+1):Nat):Int) ((rdM 0 Aa).2) (l1,f1,e1)).1))(A5:Cb=((aQ ln (((i+1):Nat):Int) ((rdM 0 Aa).2) (l1,f1,e1)).2.1))(A6:B7=((aQ ln (((i+1):Nat):Int) ((rdM 0 Aa).2) (l1,f1,e1)).2.2)):aA Tp 4 jL (cW fs ln k R i o.length ((o.map cE).flatten) l1 f1 e1) .normal (cW fs ln k R i' o'.length ((o'.map cE).flatten) Cc Cb B7):=by
 subst Aj A4 A5 A6;have k1:=fk 6 (bFx Aa) rfl;have k2:=mq cj 15 (cO (((i+1):Nat):Int) ((rdM 0 Aa).2) ln k l1 f1 e1 R);rw [Dk,Dl];exact aA.fi (gI b8 [4,16]) [bT,bF,.x (aB 0),.x (aD Aa),k1.o,k2.o,bF] (gc h4 (gc h6 (gt ([(aB ((rdM 0 Aa).1.1)),(aD ((rdM 0 Aa).1.2))].length=2) (by first | decide | simp) (gc (aX (dF h5)) (gc k2 (gc h4 (gc k1 (gt (((fs.map stE).flatten)[(i*1)]? = some (aD Aa)) (aM (E:=stE) (i:=i) (f:=0) (k:=1) (fun _=>rfl) h3 rfl) (gc (bD (E:=stE) (k:=1) (i:=(i:Int)) (fun _=>rfl) (by decide) (Bu _) h3) (gc bOr (gc (atm aB h2) (gc (ixn aB h2) (gc (eE h1) (g0 h0))))))))))))))
theorem aWe{R:List (List Cel)}{o:List Cel}{Aa:List UInt8}(h2:(aJ k)[i]? = some 1)(h3:fs[i]? = some (Aa))(h4:Aa.length≤90000)(h5:co i)(h6:((aQ ln (((i+1):Nat):Int) ((rdM 1 Aa).2) (l1,f1,e1)).2.2)≠0)(A4:Cc=((aQ ln (((i+1):Nat):Int) ((rdM 1 Aa).2) (l1,f1,e1)).1))(A5:Cb=((aQ ln (((i+1):Nat):Int) ((rdM 1 Aa).2) (l1,f1,e1)).2.1))(A6:B7=((aQ ln (((i+1):Nat):Int) ((rdM 1 Aa).2) (l1,f1,e1)).2.2)):aA Tp 4 jL (cW fs ln k R i o.length ((o.map cE).flatten) l1 f1 e1) .ret (cK (cW fs ln k R i o.length ((o.map cE).flatten) Cc Cb B7) [(6,(.p bM)),(7,(pB false))]):=by
 subst A4 A5 A6;have k1:=fk 6 (bFy Aa h4) rfl;have k2:=mq cj 15 (cO (((i+1):Nat):Int) ((rdM 1 Aa).2) ln k l1 f1 e1 R);exact aA.fi (gN b9 [4,5] [(7,0)]) [bT,bF,.x (aB 1),.x (aD Aa),k1.o,k2.o,bT] (gc (cZ (bL h6)) (gc k2 (gc h5 (gc k1 (gt (((fs.map stE).flatten)[(i*1)]? = some (aD Aa)) (aM (E:=stE) (i:=i) (f:=0) (k:=1) (fun _=>rfl) h3 rfl) (gc (bD (E:=stE) (k:=1) (i:=(i:Int)) (fun _=>rfl) (by decide) (Bu _) h3) (gc bOs (gc (atm aB h2) (gc (ixn aB h2) (gc (eE h1) (g0 h0)))))))))))
theorem aWf{R:List (List Cel)}{o:List Cel}{Aa:List UInt8}{o':List Cel}(h2:(aJ k)[i]? = some 1)(h3:fs[i]? = some (Aa))(h4:Aa.length≤90000)(h5:co i)(h6:((aQ ln (((i+1):Nat):Int) ((rdM 1 Aa).2) (l1,f1,e1)).2.2)=0)(h7:[(aB ((rdM 1 Aa).1.1)),(aD ((rdM 1 Aa).1.2))].length=1*2∧o.length+1≤1000000)(Aj:i'=(i+1))(Dk:o'.length=(o.length+1))(Dl:(o'.map cE).flatten=(((o.map cE).flatten)++[(aB ((rdM 1 Aa).1.1)),(aD ((rdM 1 Aa).1.2))]))(A4:Cc=((aQ ln (((i+1):Nat):Int) ((rdM 1 Aa).2) (l1,f1,e1)).1))(A5:Cb=((aQ ln (((i+1):Nat):Int) ((rdM 1 Aa).2) (l1,f1,e1)).2.1))(A6:B7=((aQ ln (((i+1):Nat):Int) ((rdM 1 Aa).2) (l1,f1,e1)).2.2)):aA Tp 4 jL (cW fs ln k R i o.length ((o.map cE).flatten) l1 f1 e1) .normal (cW fs ln k R i' o'.length ((o'.map cE).flatten) Cc Cb B7):=by
 subst Aj A4 A5 A6;have k1:=fk 6 (bFy Aa h4) rfl;have k2:=mq cj 15 (cO (((i+1):Nat):Int) ((rdM 1 Aa).2) ln k l1 f1 e1 R);rw [Dk,Dl];exact aA.fi (gI b8 [4,16]) [bT,bF,.x (aB 1),.x (aD Aa),k1.o,k2.o,bF] (gc h5 (gc h7 (gt ([(aB ((rdM 1 Aa).1.1)),(aD ((rdM 1 Aa).1.2))].length=2) (by first | decide | simp) (gc (aX (dF h6)) (gc k2 (gc h5 (gc k1 (gt (((fs.map stE).flatten)[(i*1)]? = some (aD Aa)) (aM (E:=stE) (i:=i) (f:=0) (k:=1) (fun _=>rfl) h3 rfl) (gc (bD (E:=stE) (k:=1) (i:=(i:Int)) (fun _=>rfl) (by decide) (Bu _) h3) (gc bOs (gc (atm aB h2) (gc (ixn aB h2) (gc (eE h1) (g0 h0))))))))))))))
theorem aWg{R:List (List Cel)}{o:List Cel}{Aa:List UInt8}(h2:(aJ k)[i]? = some 2)(h3:fs[i]? = some (Aa))(h4:co i)(h5:((aQ ln (((i+1):Nat):Int) ((rdM 2 Aa).2) (l1,f1,e1)).2.2)≠0)(A4:Cc=((aQ ln (((i+1):Nat):Int) ((rdM 2 Aa).2) (l1,f1,e1)).1))(A5:Cb=((aQ ln (((i+1):Nat):Int) ((rdM 2 Aa).2) (l1,f1,e1)).2.1))(A6:B7=((aQ ln (((i+1):Nat):Int) ((rdM 2 Aa).2) (l1,f1,e1)).2.2)):aA Tp 4 jL (cW fs ln k R i o.length ((o.map cE).flatten) l1 f1 e1) .ret (cK (cW fs ln k R i o.length ((o.map cE).flatten) Cc Cb B7) [(6,(.p bM)),(7,(pB false))]):=by
 subst A4 A5 A6;have k1:=fk 6 (bFz Aa) rfl;have k2:=mq cj 15 (cO (((i+1):Nat):Int) ((rdM 2 Aa).2) ln k l1 f1 e1 R);exact aA.fi (gN b9 [4,5] [(7,0)]) [bT,bF,.x (aB 2),.x (aD Aa),k1.o,k2.o,bT] (gc (cZ (bL h5)) (gc k2 (gc h4 (gc k1 (gt (((fs.map stE).flatten)[(i*1)]? = some (aD Aa)) (aM (E:=stE) (i:=i) (f:=0) (k:=1) (fun _=>rfl) h3 rfl) (gc (bD (E:=stE) (k:=1) (i:=(i:Int)) (fun _=>rfl) (by decide) (Bu _) h3) (gc bOt (gc (atm aB h2) (gc (ixn aB h2) (gc (eE h1) (g0 h0)))))))))))
theorem aWh{R:List (List Cel)}{o:List Cel}{Aa:List UInt8}{o':List Cel}(h2:(aJ k)[i]? = some 2)(h3:fs[i]? = some (Aa))(h4:co i)(h5:((aQ ln (((i+1):Nat):Int) ((rdM 2 Aa).2) (l1,f1,e1)).2.2)=0)(h6:[(aB ((rdM 2 Aa).1.1)),(aD ((rdM 2 Aa).1.2))].length=1*2∧o.length+1≤1000000)(Aj:i'=(i+1))(Dk:o'.length=(o.length+1))(Dl:(o'.map cE).flatten=(((o.map cE).flatten)++[(aB ((rdM 2 Aa).1.1)),(aD ((rdM 2 Aa).1.2))]))(A4:Cc=((aQ ln (((i+1):Nat):Int) ((rdM 2 Aa).2) (l1,f1,e1)).1))(A5:Cb=((aQ ln (((i+1):Nat):Int) ((rdM 2 Aa).2) (l1,f1,e1)).2.1))(A6:B7=((aQ ln (((i+1):Nat):Int) ((rdM 2 Aa).2) (l1,f1,e1)).2.2)):aA Tp 4 jL (cW fs ln k R i o.length ((o.map cE).flatten) l1 f1 e1) .normal (cW fs ln k R i' o'.length ((o'.map cE).flatten) Cc Cb B7):=by
 subst Aj A4 A5 A6;have k1:=fk 6 (bFz Aa) rfl;have k2:=mq cj 15 (cO (((i+1):Nat):Int) ((rdM 2 Aa).2) ln k l1 f1 e1 R);rw [Dk,Dl];exact aA.fi (gI b8 [4,16]) [bT,bF,.x (aB 2),.x (aD Aa),k1.o,k2.o,bF] (gc h4 (gc h6 (gt ([(aB ((rdM 2 Aa).1.1)),(aD ((rdM 2 Aa).1.2))].length=2) (by first | decide | simp) (gc (aX (dF h5)) (gc k2 (gc h4 (gc k1 (gt (((fs.map stE).flatten)[(i*1)]? = some (aD Aa)) (aM (E:=stE) (i:=i) (f:=0) (k:=1) (fun _=>rfl) h3 rfl) (gc (bD (E:=stE) (k:=1) (i:=(i:Int)) (fun _=>rfl) (by decide) (Bu _) h3) (gc bOt (gc (atm aB h2) (gc (ixn aB h2) (gc (eE h1) (g0 h0))))))))))))))
theorem aWi{R:List (List Cel)}{o:List Cel}{Aa:List UInt8}(h2:(aJ k)[i]? = some 3)(h3:fs[i]? = some (Aa))(h4:co i)(h5:((aQ ln (((i+1):Nat):Int) ((rdM 3 Aa).2) (l1,f1,e1)).2.2)≠0)(A4:Cc=((aQ ln (((i+1):Nat):Int) ((rdM 3 Aa).2) (l1,f1,e1)).1))(A5:Cb=((aQ ln (((i+1):Nat):Int) ((rdM 3 Aa).2) (l1,f1,e1)).2.1))(A6:B7=((aQ ln (((i+1):Nat):Int) ((rdM 3 Aa).2) (l1,f1,e1)).2.2)):aA Tp 4 jL (cW fs ln k R i o.length ((o.map cE).flatten) l1 f1 e1) .ret (cK (cW fs ln k R i o.length ((o.map cE).flatten) Cc Cb B7) [(6,(.p bM)),(7,(pB false))]):=by
 subst A4 A5 A6;have k1:=fk 6 (bGa Aa) rfl;have k2:=mq cj 15 (cO (((i+1):Nat):Int) ((rdM 3 Aa).2) ln k l1 f1 e1 R);exact aA.fi (gN b9 [4,5] [(7,0)]) [bT,bF,.x (aB 3),.x (aD Aa),k1.o,k2.o,bT] (gc (cZ (bL h5)) (gc k2 (gc h4 (gc k1 (gt (((fs.map stE).flatten)[(i*1)]? = some (aD Aa)) (aM (E:=stE) (i:=i) (f:=0) (k:=1) (fun _=>rfl) h3 rfl) (gc (bD (E:=stE) (k:=1) (i:=(i:Int)) (fun _=>rfl) (by decide) (Bu _) h3) (gc bOu (gc (atm aB h2) (gc (ixn aB h2) (gc (eE h1) (g0 h0)))))))))))
theorem aWj{R:List (List Cel)}{o:List Cel}{Aa:List UInt8}{o':List Cel}(h2:(aJ k)[i]? = some 3)(h3:fs[i]? = some (Aa))(h4:co i)(h5:((aQ ln (((i+1):Nat):Int) ((rdM 3 Aa).2) (l1,f1,e1)).2.2)=0)(h6:[(aB ((rdM 3 Aa).1.1)),(aD ((rdM 3 Aa).1.2))].length=1*2∧o.length+1≤1000000)(Aj:i'=(i+1))(Dk:o'.length=(o.length+1))(Dl:(o'.map cE).flatten=(((o.map cE).flatten)++[(aB ((rdM 3 Aa).1.1)),(aD ((rdM 3 Aa).1.2))]))(A4:Cc=((aQ ln (((i+1):Nat):Int) ((rdM 3 Aa).2) (l1,f1,e1)).1))(A5:Cb=((aQ ln (((i+1):Nat):Int) ((rdM 3 Aa).2) (l1,f1,e1)).2.1))(A6:B7=((aQ ln (((i+1):Nat):Int) ((rdM 3 Aa).2) (l1,f1,e1)).2.2)):aA Tp 4 jL (cW fs ln k R i o.length ((o.map cE).flatten) l1 f1 e1) .normal (cW fs ln k R i' o'.length ((o'.map cE).flatten) Cc Cb B7):=by
 subst Aj A4 A5 A6;have k1:=fk 6 (bGa Aa) rfl;have k2:=mq cj 15 (cO (((i+1):Nat):Int) ((rdM 3 Aa).2) ln k l1 f1 e1 R);rw [Dk,Dl];exact aA.fi (gI b8 [4,16]) [bT,bF,.x (aB 3),.x (aD Aa),k1.o,k2.o,bF] (gc h4 (gc h6 (gt ([(aB ((rdM 3 Aa).1.1)),(aD ((rdM 3 Aa).1.2))].length=2) (by first | decide | simp) (gc (aX (dF h5)) (gc k2 (gc h4 (gc k1 (gt (((fs.map stE).flatten)[(i*1)]? = some (aD Aa)) (aM (E:=stE) (i:=i) (f:=0) (k:=1) (fun _=>rfl) h3 rfl) (gc (bD (E:=stE) (k:=1) (i:=(i:Int)) (fun _=>rfl) (by decide) (Bu _) h3) (gc bOu (gc (atm aB h2) (gc (ixn aB h2) (gc (eE h1) (g0 h0))))))))))))))
end
theorem aWk{fs:List (List UInt8)}{R:List (List Cel)}{o:List Cel}(h0:((aJ k).length:Int)≤(i:Int)):aA Tp 4 jL (cW fs ln k R i o.length ((o.map cE).flatten) l1 f1 e1) (.exit 0) (cW fs ln k R i o.length ((o.map cE).flatten) l1 f1 e1):=aA.fi (gI b8 [4,5]) [bF] (gc (bC h0) gn)
theorem bSs{fs:List (List UInt8)}{R:List (List Cel)}{u0:List UInt8}(h0:fs[0]? = some (u0))(h1:u0≠([115,117,109]:List UInt8))(Al:r0=((aQ ln 1 11 (l,f,e)).1))(Dc:r1=((aQ ln 1 11 (l,f,e)).2.1))(D8:r2=((aQ ln 1 11 (l,f,e)).2.2)):FMM Tp 93 [(.p (.sl fs.length ((fs.map stE).flatten))),(pI sm),(.fn 176 [] [(.ptr 0 0),(.ptr 1 0)])] [some (.box 156 [(.ptr 2 0)]),some (.box 3 [(pI ln)]),some (.box 158 [(pI k),(.own 3),(pI l),(pI f),(pI e)]),some (.row 78 R.length ((R.map rwE).flatten))] (.tup []) [some (.box 156 [(.ptr 2 0)]),some (.box 3 [(pI ln)]),some (.box 158 [(pI k),(.own 3),(pI r0),(pI r1),(pI r2)]),some (.row 78 R.length ((R.map rwE).flatten))]:=by
 subst Al Dc D8;have k1:=mq cn 4 (cO 1 11 ln k l f e R);exact FMM.fi 4 gE func93 [.x (aD u0),bT,k1.o] (gc k1 (gc (cZ (decide_eq_false h1)) (gt (((fs.map stE).flatten)[0]? = some (aD u0)) (aM (E:=stE) (i:=0) (f:=0) (k:=1) (fun _=>rfl) h0 rfl) (gc (bD (E:=stE) (k:=1) (i:=(0:Int)) (fun _=>rfl) (by decide) (by first | decide | simp) h0) gn))))
theorem bSt{fs:List (List UInt8)}{R:List (List Cel)}{u0:List UInt8}(h0:fs[0]? = some (u0))(h1:u0=([115,117,109]:List UInt8))(h2:(fs.length:Int)<2)(Al:r0=((aQ ln 2 11 (l,f,e)).1))(Dc:r1=((aQ ln 2 11 (l,f,e)).2.1))(D8:r2=((aQ ln 2 11 (l,f,e)).2.2)):FMM Tp 93 [(.p (.sl fs.length ((fs.map stE).flatten))),(pI sm),(.fn 176 [] [(.ptr 0 0),(.ptr 1 0)])] [some (.box 156 [(.ptr 2 0)]),some (.box 3 [(pI ln)]),some (.box 158 [(pI k),(.own 3),(pI l),(pI f),(pI e)]),some (.row 78 R.length ((R.map rwE).flatten))] (.tup []) [some (.box 156 [(.ptr 2 0)]),some (.box 3 [(pI ln)]),some (.box 158 [(pI k),(.own 3),(pI r0),(pI r1),(pI r2)]),some (.row 78 R.length ((R.map rwE).flatten))]:=by
 subst Al Dc D8;have k1:=mq cn 4 (cO 2 11 ln k l f e R);exact FMM.fi 4 gE func93 [.x (aD u0),bF,bT,k1.o] (gc k1 (gc (cN h2) (gc (aX (decide_eq_true h1)) (gt (((fs.map stE).flatten)[0]? = some (aD u0)) (aM (E:=stE) (i:=0) (f:=0) (k:=1) (fun _=>rfl) h0 rfl) (gc (bD (E:=stE) (k:=1) (i:=(0:Int)) (fun _=>rfl) (by decide) (by first | decide | simp) h0) gn)))))
section
variable{fs:List (List UInt8)}{u0 u1:List UInt8}(h0:fs[0]? = some (u0))(h1:u0=([115,117,109]:List UInt8))(h2:(2:Int)≤(fs.length:Int))(h3:fs[1]? = some (u1))(h4:0≤(65520:Int)∧(65520:Int)≤1000000000)
include h0 h1 h2 h3 h4
theorem bSu{R:List (List Cel)}(h5:((bH u1 65520).2)=3)(h6:((aQ ln 2 8 (l,f,e)).2.2)≠0)(Al:r0=((aQ ln 2 8 (l,f,e)).1))(Dc:r1=((aQ ln 2 8 (l,f,e)).2.1))(D8:r2=((aQ ln 2 8 (l,f,e)).2.2)):FMM Tp 93 [(.p (.sl fs.length ((fs.map stE).flatten))),(pI sm),(.fn 176 [] [(.ptr 0 0),(.ptr 1 0)])] [some (.box 156 [(.ptr 2 0)]),some (.box 3 [(pI ln)]),some (.box 158 [(pI k),(.own 3),(pI l),(pI f),(pI e)]),some (.row 78 R.length ((R.map rwE).flatten))] (.tup []) [some (.box 156 [(.ptr 2 0)]),some (.box 3 [(pI ln)]),some (.box 158 [(pI k),(.own 3),(pI r0),(pI r1),(pI r2)]),some (.row 78 R.length ((R.map rwE).flatten))]:=by
 subst Al Dc D8;have k1:=fk 4 (fY u1 65520 h4) rfl;have k2:=mq cn 4 (cO 2 8 ln k l f e R);exact FMM.fi 4 gE func93 ([.x (aD u0),bF,bF,.x (aD u1),k1.o]++rT 5++[k2.o,bF,bF,bF,bF]) (F6 (bL h6) (gc k2 (Cy (dF h5) (gc k1 (gt (((fs.map stE).flatten)[1]? = some (aD u1)) (aM (E:=stE) (i:=1) (f:=0) (k:=1) (fun _=>rfl) h3 rfl) (gc (bD (E:=stE) (k:=1) (i:=(1:Int)) (fun _=>rfl) (by decide) (by first | decide | simp) h3) (gc (bC h2) (gc (aX (decide_eq_true h1)) (gt (((fs.map stE).flatten)[0]? = some (aD u0)) (aM (E:=stE) (i:=0) (f:=0) (k:=1) (fun _=>rfl) h0 rfl) (gc (bD (E:=stE) (k:=1) (i:=(0:Int)) (fun _=>rfl) (by decide) (by first | decide | simp) h0) gn))))))))))
theorem bSv{R:List (List Cel)}(h5:((bH u1 65520).2)≠3)(h6:((bH u1 65520).2)=0)(h7:((bH u1 65520).1)≠sm)(h8:((aQ ln 2 8 (l,f,e)).2.2)≠0)(Al:r0=((aQ ln 2 8 (l,f,e)).1))(Dc:r1=((aQ ln 2 8 (l,f,e)).2.1))(D8:r2=((aQ ln 2 8 (l,f,e)).2.2)):FMM Tp 93 [(.p (.sl fs.length ((fs.map stE).flatten))),(pI sm),(.fn 176 [] [(.ptr 0 0),(.ptr 1 0)])] [some (.box 156 [(.ptr 2 0)]),some (.box 3 [(pI ln)]),some (.box 158 [(pI k),(.own 3),(pI l),(pI f),(pI e)]),some (.row 78 R.length ((R.map rwE).flatten))] (.tup []) [some (.box 156 [(.ptr 2 0)]),some (.box 3 [(pI ln)]),some (.box 158 [(pI k),(.own 3),(pI r0),(pI r1),(pI r2)]),some (.row 78 R.length ((R.map rwE).flatten))]:=by
 subst Al Dc D8;have k1:=fk 4 (fY u1 65520 h4) rfl;have k2:=mq cn 4 (cO 2 8 ln k l f e R);exact FMM.fi 4 gE func93 [.x (aD u0),bF,bF,.x (aD u1),k1.o,bF,bF,bF,bT,bT,bT,bF,bT,bF,bT,k2.o,bF,bF,bF,bF] (F6 (bL h8) (gc k2 (gc (fD h7) (gc (bL h5) (gc (dF h6) (gc (bL h5) (A1 (dF h6) (A1 (bL h5) (gc k1 (gt (((fs.map stE).flatten)[1]? = some (aD u1)) (aM (E:=stE) (i:=1) (f:=0) (k:=1) (fun _=>rfl) h3 rfl) (gc (bD (E:=stE) (k:=1) (i:=(1:Int)) (fun _=>rfl) (by decide) (by first | decide | simp) h3) (gc (bC h2) (gc (aX (decide_eq_true h1)) (gt (((fs.map stE).flatten)[0]? = some (aD u0)) (aM (E:=stE) (i:=0) (f:=0) (k:=1) (fun _=>rfl) h0 rfl) (gc (bD (E:=stE) (k:=1) (i:=(0:Int)) (fun _=>rfl) (by decide) (by first | decide | simp) h0) gn)))))))))))))))
theorem bSw{R:List (List Cel)}(h5:((bH u1 65520).2)≠3)(h6:((bH u1 65520).2)=0)(h7:((bH u1 65520).1)=sm)(h8:((aQ ln 2 ((bH u1 65520).2) (l,f,e)).2.2)=0)(h9:(2:Int)<(fs.length:Int))(Al:r0=((aQ ln 3 11 (((aQ ln 2 ((bH u1 65520).2) (l,f,e)).1),((aQ ln 2 ((bH u1 65520).2) (l,f,e)).2.1),((aQ ln 2 ((bH u1 65520).2) (l,f,e)).2.2))).1))(Dc:r1=((aQ ln 3 11 (((aQ ln 2 ((bH u1 65520).2) (l,f,e)).1),((aQ ln 2 ((bH u1 65520).2) (l,f,e)).2.1),((aQ ln 2 ((bH u1 65520).2) (l,f,e)).2.2))).2.1))(D8:r2=((aQ ln 3 11 (((aQ ln 2 ((bH u1 65520).2) (l,f,e)).1),((aQ ln 2 ((bH u1 65520).2) (l,f,e)).2.1),((aQ ln 2 ((bH u1 65520).2) (l,f,e)).2.2))).2.2)):FMM Tp 93 [(.p (.sl fs.length ((fs.map stE).flatten))),(pI sm),(.fn 176 [] [(.ptr 0 0),(.ptr 1 0)])] [some (.box 156 [(.ptr 2 0)]),some (.box 3 [(pI ln)]),some (.box 158 [(pI k),(.own 3),(pI l),(pI f),(pI e)]),some (.row 78 R.length ((R.map rwE).flatten))] (.tup []) [some (.box 156 [(.ptr 2 0)]),some (.box 3 [(pI ln)]),some (.box 158 [(pI k),(.own 3),(pI r0),(pI r1),(pI r2)]),some (.row 78 R.length ((R.map rwE).flatten))]:=by
 subst Al Dc D8;have k1:=fk 4 (fY u1 65520 h4) rfl;have k2:=mq cn 4 (cO 2 ((bH u1 65520).2) ln k l f e R);have k3:=mq cn 4 (cO 3 11 ln k ((aQ ln 2 ((bH u1 65520).2) (l,f,e)).1) ((aQ ln 2 ((bH u1 65520).2) (l,f,e)).2.1) ((aQ ln 2 ((bH u1 65520).2) (l,f,e)).2.2) R);exact FMM.fi 4 gE func93 ([.x (aD u0),bF,bF,.x (aD u1),k1.o,bF,bF,bF,bT,bT,bT,bF,bT,bF,bF,k2.o]++rT 5++[k3.o]) (gc k3 (gc (cN h9) (F6 (dF h8) (gc k2 (gc (bV h7) (gc (bL h5) (gc (dF h6) (gc (bL h5) (A1 (dF h6) (A1 (bL h5) (gc k1 (gt (((fs.map stE).flatten)[1]? = some (aD u1)) (aM (E:=stE) (i:=1) (f:=0) (k:=1) (fun _=>rfl) h3 rfl) (gc (bD (E:=stE) (k:=1) (i:=(1:Int)) (fun _=>rfl) (by decide) (by first | decide | simp) h3) (gc (bC h2) (gc (aX (decide_eq_true h1)) (gt (((fs.map stE).flatten)[0]? = some (aD u0)) (aM (E:=stE) (i:=0) (f:=0) (k:=1) (fun _=>rfl) h0 rfl) (gc (bD (E:=stE) (k:=1) (i:=(0:Int)) (fun _=>rfl) (by decide) (by first | decide | simp) h0) gn)))))))))))))))))
theorem bSx{R:List (List Cel)}(h5:((bH u1 65520).2)≠3)(h6:((bH u1 65520).2)=0)(h7:((bH u1 65520).1)=sm)(h8:((aQ ln 2 ((bH u1 65520).2) (l,f,e)).2.2)=0)(h9:(fs.length:Int)≤2)(Al:r0=((aQ ln 2 ((bH u1 65520).2) (l,f,e)).1))(Dc:r1=((aQ ln 2 ((bH u1 65520).2) (l,f,e)).2.1))(D8:r2=((aQ ln 2 ((bH u1 65520).2) (l,f,e)).2.2)):FMM Tp 93 [(.p (.sl fs.length ((fs.map stE).flatten))),(pI sm),(.fn 176 [] [(.ptr 0 0),(.ptr 1 0)])] [some (.box 156 [(.ptr 2 0)]),some (.box 3 [(pI ln)]),some (.box 158 [(pI k),(.own 3),(pI l),(pI f),(pI e)]),some (.row 78 R.length ((R.map rwE).flatten))] (.tup []) [some (.box 156 [(.ptr 2 0)]),some (.box 3 [(pI ln)]),some (.box 158 [(pI k),(.own 3),(pI r0),(pI r1),(pI r2)]),some (.row 78 R.length ((R.map rwE).flatten))]:=by
 subst Al Dc D8;have k1:=fk 4 (fY u1 65520 h4) rfl;have k2:=mq cn 4 (cO 2 ((bH u1 65520).2) ln k l f e R);exact FMM.fi 4 gE func93 [.x (aD u0),bF,bF,.x (aD u1),k1.o,bF,bF,bF,bT,bT,bT,bF,bT,bF,bF,k2.o,bT,bT,bT,bT,bF] (gc (bC h9) (F6 (dF h8) (gc k2 (gc (bV h7) (gc (bL h5) (gc (dF h6) (gc (bL h5) (A1 (dF h6) (A1 (bL h5) (gc k1 (gt (((fs.map stE).flatten)[1]? = some (aD u1)) (aM (E:=stE) (i:=1) (f:=0) (k:=1) (fun _=>rfl) h3 rfl) (gc (bD (E:=stE) (k:=1) (i:=(1:Int)) (fun _=>rfl) (by decide) (by first | decide | simp) h3) (gc (bC h2) (gc (aX (decide_eq_true h1)) (gt (((fs.map stE).flatten)[0]? = some (aD u0)) (aM (E:=stE) (i:=0) (f:=0) (k:=1) (fun _=>rfl) h0 rfl) (gc (bD (E:=stE) (k:=1) (i:=(0:Int)) (fun _=>rfl) (by decide) (by first | decide | simp) h0) gn))))))))))))))))
theorem bKx{R:List (List Cel)}(h5:((bH u1 65520).2)≠3)(h6:((bH u1 65520).2)≠0)(h7:((aQ ln 2 ((bH u1 65520).2) (l,f,e)).2.2)≠0)(Al:r0=((aQ ln 2 ((bH u1 65520).2) (l,f,e)).1))(Dc:r1=((aQ ln 2 ((bH u1 65520).2) (l,f,e)).2.1))(D8:r2=((aQ ln 2 ((bH u1 65520).2) (l,f,e)).2.2)):FMM Tp 93 [(.p (.sl fs.length ((fs.map stE).flatten))),(pI sm),(.fn 176 [] [(.ptr 0 0),(.ptr 1 0)])] [some (.box 156 [(.ptr 2 0)]),some (.box 3 [(pI ln)]),some (.box 158 [(pI k),(.own 3),(pI l),(pI f),(pI e)]),some (.row 78 R.length ((R.map rwE).flatten))] (.tup []) [some (.box 156 [(.ptr 2 0)]),some (.box 3 [(pI ln)]),some (.box 158 [(pI k),(.own 3),(pI r0),(pI r1),(pI r2)]),some (.row 78 R.length ((R.map rwE).flatten))]:=by
 subst Al Dc D8;have k1:=fk 4 (fY u1 65520 h4) rfl;have k2:=mq cn 4 (cO 2 ((bH u1 65520).2) ln k l f e R);exact FMM.fi 4 gE func93 ([.x (aD u0),bF,bF,.x (aD u1),k1.o]++rF 9++[k2.o,bF,bF,bF,bF]) (F6 (bL h7) (gc k2 (gc (bL h5) (gc (bL h6) (gc (bL h5) (A1 (bL h6) (A1 (bL h5) (gc k1 (gt (((fs.map stE).flatten)[1]? = some (aD u1)) (aM (E:=stE) (i:=1) (f:=0) (k:=1) (fun _=>rfl) h3 rfl) (gc (bD (E:=stE) (k:=1) (i:=(1:Int)) (fun _=>rfl) (by decide) (by first | decide | simp) h3) (gc (bC h2) (gc (aX (decide_eq_true h1)) (gt (((fs.map stE).flatten)[0]? = some (aD u0)) (aM (E:=stE) (i:=0) (f:=0) (k:=1) (fun _=>rfl) h0 rfl) (gc (bD (E:=stE) (k:=1) (i:=(0:Int)) (fun _=>rfl) (by decide) (by first | decide | simp) h0) gn))))))))))))))
end
def rdL:List Int→List (List UInt8)→Nat→List Cel ⊕ (Int × Int)
 | [],_,_ => .inl []
 | _::_,[],i => .inr (((i+1:Nat):Int),11)
 | t::ts,u::us,i=>if (rdM t u).2≠0 then .inr (((i+1:Nat):Int),(rdM t u).2) else match rdL ts us (i+1) with
  | .inl cs => .inl ((rdM t u).1::cs)
  | .inr p => .inr p
theorem uB{k:Int}{fs:List (List UInt8)}(ln:Int)(R:List (List Cel))(l f:Int)(hf:∀ u∈fs,u.length≤90000):∀ (ts:List Int) (us:List (List UInt8)) (i:Nat) (o:List Cel),(aJ k).drop i=ts→fs.drop i=us→i≤(aJ k).length→i≤fs.length→o.length=i →
  (∃ cs,rdL ts us i = .inl cs∧aF Tp 4 jL (cW fs ln k R i o.length ((o.map cE).flatten) l f 0) (.exit 0) (cW fs ln k R (aJ k).length (o++cs).length (((o++cs).map cE).flatten) l f 0)) ∨
  (∃ fd er j o',rdL ts us i = .inr (fd,er)∧er≠0∧aF Tp 4 jL (cW fs ln k R i o.length ((o.map cE).flatten) l f 0) .ret (cK (cW fs ln k R j o'.length ((List.map cE o').flatten) ln fd er) [(6,(.p bM)),(7,(pB false))]))
 | [],us,i,o,ht,hu,hi,hj,ho=>by
  have hl:(aJ k).length≤i:=List.drop_eq_nil_iff.1 ht;have:i=(aJ k).length:=by omega
  subst this;exact .inl ⟨[],rfl,by rw [List.append_nil];exact .exit (aWk (by omega)) (by simp)⟩
 | t::ts,[],i,o,ht,hu,hi,hj,ho=>by
  have hc:=jN k;have hl:=congrArg List.length ht;rw [sI,eT] at hl
  have Bp:fs.length≤i:=List.drop_eq_nil_iff.1 hu;have e:=Es (er:=11) ln (((i+1:Nat)):Int) l f (by decide)
  have:=aWb (fs:=fs) (ln:=ln) (k:=k) (R:=R) (i:=i) (o:=o) (l1:=l) (f1:=f) (e1:=0) (by omega) (by omega) (aT (by omega)) rfl rfl rfl
  rw [e] at this
  exact .inr ⟨_,11,i,o,rfl,by decide,.exit this (by simp)⟩
 | t::ts,u::us,i,o,ht,hu,hi,hj,ho=>by
  have hc:=jN k;have hl:=congrArg List.length ht;rw [sI,eT] at hl
  have Bp:=congrArg List.length hu;rw [sI,eT] at Bp
  have h1:(aJ k)[i]? = some t:=by
   have:=congrArg (fun l:List Int=>l[0]?) ht
   simpa using this
  have h2:fs[i]? = some u:=by
   have:=congrArg (fun l:List (List UInt8)=>l[0]?) hu
   simpa using this
  have Od:=hf u (Ch h2);have I2:(aJ k).drop (i+1)=ts:=by
   have:=congrArg List.tail ht;rw [List.tail_drop] at this;exact this
  have P0:fs.drop (i+1)=us:=by
   have:=congrArg List.tail hu;rw [List.tail_drop] at this;exact this
  unfold rdL
  by_cases hz:(rdM t u).2=0
  ·rw [if_neg (by simp [hz])]
   have hs:aA Tp 4 jL (cW fs ln k R i o.length ((o.map cE).flatten) l f 0) .normal (cW fs ln k R (i+1) (o++[(rdM t u).1]).length (((o++[(rdM t u).1]).map cE).flatten) l f 0):=by
    rcases jO h1 with rfl | rfl | rfl | rfl
    ·exact aWd (by omega) (by omega) h1 h2 (aT (by omega)) (by rw [hz];rfl) ⟨rfl,by omega⟩ rfl (by simp) (by simp [cE]) (by rw [hz];rfl) (by rw [hz];rfl) (by rw [hz];rfl)
    ·exact aWf (by omega) (by omega) h1 h2 Od (aT (by omega)) (by rw [hz];rfl) ⟨rfl,by omega⟩ rfl (by simp) (by simp [cE]) (by rw [hz];rfl) (by rw [hz];rfl) (by rw [hz];rfl)
    ·exact aWh (by omega) (by omega) h1 h2 (aT (by omega)) (by rw [hz];rfl) ⟨rfl,by omega⟩ rfl (by simp) (by simp [cE]) (by rw [hz];rfl) (by rw [hz];rfl) (by rw [hz];rfl)
    ·exact aWj (by omega) (by omega) h1 h2 (aT (by omega)) (by rw [hz];rfl) ⟨rfl,by omega⟩ rfl (by simp) (by simp [cE]) (by rw [hz];rfl) (by rw [hz];rfl) (by rw [hz];rfl)
   rcases uB ln R l f hf ts us (i+1) (o++[(rdM t u).1]) I2 P0 (by omega) (by omega) (by simp;omega) with ⟨cs,q1,q2⟩ | ⟨fd,er,j,o',q1,q2,q3⟩
   ·rw [q1]
    refine .inl ⟨_,rfl,?_⟩;rw [List.append_cons];exact .step hs q2
   ·rw [q1]
    exact .inr ⟨fd,er,j,o',rfl,q2,.step hs q3⟩
  ·rw [if_pos hz]
   have e:=Es ln (((i+1:Nat)):Int) l f hz;refine .inr ⟨_,_,i,o,rfl,hz,?_⟩;have hx:∀ (P:Int × Int × Int→Prop),P (aQ ln (((i+1:Nat)):Int) (rdM t u).2 (l,f,0))→P (ln,(((i+1:Nat)):Int),(rdM t u).2):=fun P h=>by rw [e] at h;exact h
   refine hx (fun q=>aF Tp 4 jL (cW fs ln k R i o.length ((o.map cE).flatten) l f 0) .ret (cK (cW fs ln k R i o.length ((List.map cE o).flatten) q.1 q.2.1 q.2.2) [(6,(.p bM)),(7,(pB false))])) ?_
   rcases jO h1 with rfl | rfl | rfl | rfl
   ·exact .exit (aWc (by omega) (by omega) h1 h2 (aT (by omega)) (by rw [e];exact hz) rfl rfl rfl) (by simp)
   ·exact .exit (aWe (by omega) (by omega) h1 h2 Od (aT (by omega)) (by rw [e];exact hz) rfl rfl rfl) (by simp)
   ·exact .exit (aWg (by omega) (by omega) h1 h2 (aT (by omega)) (by rw [e];exact hz) rfl rfl rfl) (by simp)
   ·exact .exit (aWi (by omega) (by omega) h1 h2 (aT (by omega)) (by rw [e];exact hz) rfl rfl rfl) (by simp)
theorem kU{k:Int}{fs:List (List UInt8)}{cs:List Cel}(ln:Int)(R:List (List Cel))(l f:Int)(hf:∀ u∈fs,u.length≤90000)(h:rdL (aJ k) fs 0 = .inl cs)(hl:fs.length=(aJ k).length):FMM Tp 91 [.ptr 0 0,.p (.sl fs.length ((fs.map stE).flatten)),.fn 176 [] [.ptr 2 0,.ptr 3 0]] [some (.box 158 [(pI k),(.own 1),(pI l),(pI f),(pI 0)]),some (.row 78 R.length ((R.map rwE).flatten)),some (.box 156 [(.ptr 0 0)]),some (.box 3 [(pI ln)])] (.tup [.own 4,.p (blP true)]) [some (.box 158 [(pI k),(.own 1),(pI l),(pI f),(pI 0)]),some (.row 78 R.length ((R.map rwE).flatten)),some (.box 156 [(.ptr 0 0)]),some (.box 3 [(pI ln)]),some (.row 80 cs.length ((cs.map cE).flatten))]:=by
 rcases uB ln R l f hf (aJ k) fs 0 [] rfl rfl (by omega) (by omega) rfl with ⟨Bh,q1,q2⟩ | ⟨fd,er,j,o',q1,_,_⟩
 ·rw [q1] at h;cases h
  exact bSp q2 (by omega)
 ·rw [q1] at h;cases h
theorem aJh{k:Int}{fs:List (List UInt8)}{cs:List Cel}(ln:Int)(R:List (List Cel))(l f:Int)(hf:∀ u∈fs,u.length≤90000)(h:rdL (aJ k) fs 0 = .inl cs)(hl:fs.length≠(aJ k).length):FMM Tp 91 [.ptr 0 0,.p (.sl fs.length ((fs.map stE).flatten)),.fn 176 [] [.ptr 2 0,.ptr 3 0]] [some (.box 158 [(pI k),(.own 1),(pI l),(pI f),(pI 0)]),some (.row 78 R.length ((R.map rwE).flatten)),some (.box 156 [(.ptr 0 0)]),some (.box 3 [(pI ln)])] (.tup [.own 4,.p (blP false)]) [some (.box 158 [(pI k),(.own 1),(pI ln),(pI (((aJ k).length+1:Nat):Int)),(pI 11)]),some (.row 78 R.length ((R.map rwE).flatten)),some (.box 156 [(.ptr 0 0)]),some (.box 3 [(pI ln)]),some (.row 80 cs.length ((cs.map cE).flatten))]:=by
 have hc:=jN k
 rcases uB ln R l f hf (aJ k) fs 0 [] rfl rfl (by omega) (by omega) rfl with ⟨Bh,q1,q2⟩ | ⟨fd,er,j,o',q1,_,_⟩
 ·rw [q1] at h;cases h
  exact bSq q2 (by omega) (aT (by omega)) rfl rfl rfl rfl
 ·rw [q1] at h;cases h
theorem aQo{k:Int}{fs:List (List UInt8)}{fd er:Int}(ln:Int)(R:List (List Cel))(l f:Int)(hf:∀ u∈fs,u.length≤90000)(h:rdL (aJ k) fs 0 = .inr (fd,er)):er≠0∧FMM Tp 91 [.ptr 0 0,.p (.sl fs.length ((fs.map stE).flatten)),.fn 176 [] [.ptr 2 0,.ptr 3 0]] [some (.box 158 [(pI k),(.own 1),(pI l),(pI f),(pI 0)]),some (.row 78 R.length ((R.map rwE).flatten)),some (.box 156 [(.ptr 0 0)]),some (.box 3 [(pI ln)])] (.tup [.p bM,.p (blP false)]) [some (.box 158 [(pI k),(.own 1),(pI ln),(pI fd),(pI er)]),some (.row 78 R.length ((R.map rwE).flatten)),some (.box 156 [(.ptr 0 0)]),some (.box 3 [(pI ln)])]:=by
 rcases uB ln R l f hf (aJ k) fs 0 [] rfl rfl (by omega) (by omega) rfl with ⟨Bh,q1,q2⟩ | ⟨fd',er',j,o',q1,hz,q2⟩
 ·rw [q1] at h;cases h
 ·rw [q1] at h;cases h
  have hb:(er == 0)=false:=by simpa using hz
  refine ⟨hz,?_⟩;have:=bSr (k:=k) (l:=l) (f:=f) (e:=0) (r0:=(er == 0)) (by rw [hb];exact q2) rfl
  rw [hb] at this
  exact this
def lsC(fs:List (List UInt8))(sm:Int):Int:=if (bH (fld fs 1) 65520).2=3∨((bH (fld fs 1) 65520).2=0∧(bH (fld fs 1) 65520).1≠sm) then 8 else (bH (fld fs 1) 65520).2
def lsM(fs:List (List UInt8))(sm:Int):Int × Int:=if fld fs 0≠[115,117,109] then (1,11) else if fs.length<2 then (2,11) else if lsC fs sm≠0 then (2,lsC fs sm) else if 2<fs.length then (3,11) else (0,0)
theorem bEw(fs:List (List UInt8))(sm ln k l f:Int)(R:List (List Cel))(h0:0<fs.length):FMM Tp 93 [.p (.sl fs.length ((fs.map stE).flatten)),.p (aB sm),.fn 176 [] [.ptr 0 0,.ptr 1 0]] [some (.box 156 [(.ptr 2 0)]),some (.box 3 [(pI ln)]),some (.box 158 [(pI k),(.own 3),(pI l),(pI f),(pI 0)]),some (.row 78 R.length ((R.map rwE).flatten))] (.tup []) [some (.box 156 [(.ptr 2 0)]),some (.box 3 [(pI ln)]),some (.box 158 [(pI k),(.own 3),(pI ((aQ ln (lsM fs sm).1 (lsM fs sm).2 (l,f,0)).1)),(pI ((aQ ln (lsM fs sm).1 (lsM fs sm).2 (l,f,0)).2.1)),(pI ((aQ ln (lsM fs sm).1 (lsM fs sm).2 (l,f,0)).2.2))]),some (.row 78 R.length ((R.map rwE).flatten))]:=by
 have f0:=aAb (fs:=fs) (j:=0) h0;unfold lsM
 by_cases h1:fld fs 0=[115,117,109]
 ·rw [if_neg (by simp [h1])]
  by_cases h2:fs.length<2
  ·rw [if_pos h2]
   exact bSt f0 h1 (by omega) rfl rfl rfl
  ·rw [if_neg h2]
   have f1:=aAb (fs:=fs) (j:=1) (by omega)
   have t1:∀ fd er,er≠0→aQ ln fd er (l,f,0)=(ln,fd,er):=fun fd er h=>Es ln fd l f h
   by_cases h3:(bH (fld fs 1) 65520).2=3
   ·have ec:lsC fs sm=8:=if_pos (.inl h3)
    rw [if_pos (by rw [ec];decide),ec]
    exact bSu f0 h1 (by omega) f1 (by omega) h3 (by rw [t1 _ _ (by decide)];simp) rfl rfl rfl
   ·by_cases h4:(bH (fld fs 1) 65520).2=0
    ·by_cases h5:(bH (fld fs 1) 65520).1=sm
     ·have ec:lsC fs sm=0:=by unfold lsC;rw [if_neg (by simp [h4,h5])];exact h4
      rw [if_neg (by rw [ec];simp)]
      by_cases h6:2<fs.length
      ·rw [if_pos h6]
       have:=bSw (k:=k) (l:=l) (f:=f) (e:=0) (ln:=ln) (R:=R) f0 h1 (by omega) f1 (by omega) h3 h4 h5 (by rw [h4];rfl) (by omega) rfl rfl rfl
       rw [h4] at this
       exact this
      ·rw [if_neg h6]
       have:=bSx (k:=k) (l:=l) (f:=f) (e:=0) (ln:=ln) (R:=R) f0 h1 (by omega) f1 (by omega) h3 h4 h5 (by rw [h4];rfl) (by omega) rfl rfl rfl
       rw [h4] at this
       exact this
     ·have ec:lsC fs sm=8:=if_pos (.inr ⟨h4,h5⟩)
      rw [if_pos (by rw [ec];decide),ec]
      exact bSv f0 h1 (by omega) f1 (by omega) h3 h4 h5 (by rw [t1 _ _ (by decide)];simp) rfl rfl rfl
    ·have ec:lsC fs sm=(bH (fld fs 1) 65520).2:=if_neg (by simp [h3,h4])
     rw [if_pos (by rw [ec];exact h4),ec]
     exact bKx f0 h1 (by omega) f1 (by omega) h3 h4 (by rw [t1 _ _ h4];exact h4) rfl rfl rfl
 ·rw [if_pos h1]
  exact bSs f0 h1 rfl rfl rfl
end
end KV
end Go.Proofs
section
namespace Go.Proofs
open Go.RowKit
namespace KV
open Tryz
def aU(s sep:List UInt8):List (List UInt8):=Lib.splitK sep 0 (Lib.countB ⟨s.toArray⟩ ⟨sep.toArray⟩) s
theorem cCj(s sep:List UInt8):(Lib.splitB ⟨sep.toArray⟩ 0 (Lib.countB ⟨s.toArray⟩ ⟨sep.toArray⟩) ⟨s.toArray⟩).map (·.data.toList)=aU s sep:=by
 rw [Lib.splitB_data];rfl
theorem bGl(w:World)(arr:Array Value)(ty:TypeId)(i:Nat):(w.alloc (.cells arr ty)).cell? ⟨w.heap.size,i,none⟩=arr[i]? := by
 unfold World.cell?;simp [World.alloc,-World.alloc_eq]
theorem aJu{w:World}{o:Obj}:Below w.heap.size w (w.alloc o):=⟨rfl,rfl,rfl,by simp [World.alloc,-World.alloc_eq],fun b hb=>by simp [World.alloc,-World.alloc_eq,Array.getElem?_push];omega⟩
theorem eQ(s sep:List UInt8)(h:s.length<4294967281)(h1:1≤sep.length){base:Nat}:FV Tp 29 [.p (aD s),.p (aD sep)] base (.p (.sl (aU s sep).length (((aU s sep).map stE).flatten))) []:=FV.ofc rfl fun C w us hus hM=>by
 obtain rfl:=Gw rfl rfl hus;obtain ⟨m,hm⟩:=(aEj hM.lib).1;refine (Tryz.strings_Split ⟨s.toArray⟩ ⟨sep.toArray⟩ m w (by rw [Lib.size_eq];exact h) hm (by rw [Lib.size_eq];exact h1)).mono ?_
 rintro e w' ⟨rfl,rfl⟩;have hl:=Lib.splitB_all ⟨sep.toArray⟩ (by rw [Lib.size_eq];exact h1) 0 _ ⟨s.toArray⟩ rfl
 have hs:=cCj s sep;have hc:Lib.countB ⟨s.toArray⟩ ⟨sep.toArray⟩≤s.length:=by
  have:=Lib.countB_le ⟨sep.toArray⟩ (by rw [Lib.size_eq];exact h1) _ ⟨s.toArray⟩ (Bb _)
  rw [Lib.size_eq] at this;exact this
 generalize Lib.splitB ⟨sep.toArray⟩ 0 (Lib.countB ⟨s.toArray⟩ ⟨sep.toArray⟩) ⟨s.toArray⟩=L at hl hs ⊢
 rw [← hs,mR,hl,jG];generalize Lib.countB ⟨s.toArray⟩ ⟨sep.toArray⟩=n at hl hc
 refine ⟨_,rfl,aJu,.p _ _ (.sl _ _ _ _ (fun i=>((L.map Value.string).toArray)[i]?.getD undef) (Bb _) ?_ (fun i hi => ?_) (fun i hi => ?_) (fun i hi => ?_))⟩
 ·simp only [maxLen];omega
 ·refine ⟨_,_,rfl,.inr ⟨Bb _,by simp [World.alloc,-World.alloc_eq],by simp⟩,?_⟩
  rw [bGl];have:i<((L.map Value.string).toArray).size:=by simpa using hi
  simp [iT,rA this]
 ·have Ev:i<L.length:=by simpa using hi
  rw [gS,gS];simp only [List.getElem?_toArray,tX,B4 Ev,Option.map_some,Option.getD_some];exact .v _
 ·have Ev:i<L.length:=by simpa using hi
  simp only [List.getElem?_toArray,tX,B4 Ev,Option.map_some,Option.getD_some];rfl
end KV
end Go.Proofs
end
namespace Go.Proofs
namespace KV
open Tryz
section
variable {j k Bg Ci:Int}{i i' Aq base:Nat}

noncomputable abbrev aDc:Code:=sub (cd Tryz.f107) [1,1,0,1,0,0]
noncomputable abbrev aDd:Code:=sub (cd Tryz.f167) [1,1,0,1,0,0]
noncomputable abbrev aDe:Code:=sub (cd Tryz.f46) [1,1,0,1,0,0]
noncomputable abbrev aDf:Code:=sub (cd Tryz.f117) [1,1,0,1,0,0]
theorem bKw{b t g:Int}:FV Tp 87 [(pI b),(pI t),(pI g)] base (.p (.sl 3 [(aB b),(aD ([]:List UInt8)),(aB t),(aD ([]:List UInt8)),(aB g),(aD ([]:List UInt8))])) []:=FV.frz (FMM.fi 0 ⟨[],[],[0],[]⟩ func87 [] gn) (by kernel_rfl)
theorem qR(b t g:Int){base:Nat}:FV Tp 87 [.p (aB b),.p (aB t),.p (aB g)] base (.p (.sl ([(b,[]),(t,[]),(g,[])]:List Cel).length ((([(b,[]),(t,[]),(g,[])]:List Cel).map cE).flatten))) []:=bKw
theorem dV{α β:Type}{l:List α}{x:List β}{j:Nat}{p:α × β}(h:(l.zip x)[j]? = some p):l[j]? = some p.1∧x[j]? = some p.2:=by
 rw [List.zip,List.getElem?_zipWith] at h
 cases h1:l[j]? with
 | none=>rw [h1] at h;simp at h
 | some t =>
  cases h2:x[j]? with
  | none=>rw [h1,h2] at h;simp at h
  | some c=>rw [h1,h2] at h;simp at h;subst h;exact ⟨rfl,rfl⟩
theorem iW{α:Type}[DecidableEq α]:∀ (r t:List α),r.length=t.length→(r.zip t).any (fun q => !(decide (q.1=q.2)))=false→r=t
 | [],[],_,_=>rfl
 | a::r,b::t,hl,h=>by
  simp only [List.zip_cons_cons,List.any_cons,Bool.or_eq_false_iff,Bool.not_eq_false',decide_eq_true_eq] at h
  rw [h.1,iW r t (by simpa using hl) h.2]
 | [],_::_,hl,_=>by simp at hl
 | _::_,[],hl,_=>by simp at hl
theorem vJ{a b:Int}{z y:List UInt8}:(decide (a=b) && (decide (z=y) && true))=decide (((a,z):Cel)=(b,y)):=by
 by_cases h:a=b <;> by_cases h2:z=y <;> simp [h,h2]
def iX(r t:List Cel)(i:Nat):St:=⟨fr 26 [(0,(.p (.sl r.length ((r.map cE).flatten)))),(1,(.p (.sl t.length ((t.map cE).flatten)))),(12,(pI (r.length:Int))),(13,(pI (i:Int)))],[]⟩
theorem bRy{r t:List Cel}(h0:(r.length:Int)≠(t.length:Int)):FV Tp 107 [(.p (.sl r.length ((r.map cE).flatten))),(.p (.sl t.length ((t.map cE).flatten)))] base (pB false) []:=FV.fi func107 [bT] (gc (fD h0) gn)
theorem bRz{r t:List Cel}(h0:(r.length:Int)=(t.length:Int))(An:aF Tp 0 aDc (iX r t 0) (.exit 0) (iX r t Aq)):FV Tp 107 [(.p (.sl r.length ((r.map cE).flatten))),(.p (.sl t.length ((t.map cE).flatten)))] base (pB true) []:=FV.fi func107 [bF,An.k 4 (gZ bv)] (gc An.code (gc (bV h0) gn))
theorem bSa{r t:List Cel}(h0:(r.length:Int)=(t.length:Int))(An:aF Tp 0 aDc (iX r t 0) .ret (cK (iX r t Aq) [(4,(pB false))])):FV Tp 107 [(.p (.sl r.length ((r.map cE).flatten))),(.p (.sl t.length ((t.map cE).flatten)))] base (pB false) []:=FV.fi func107 [bF,An.k 4 (gZ bv)] (gc An.code (gc (bV h0) gn))
section
variable{r t:List Cel}{Bi B1:List UInt8}(h0:(i:Int)<(r.length:Int))(h1:r[i]? = some (Bg,Bi))(h2:t[i]? = some (Ci,B1))
include h0 h1 h2
theorem aVp(h3:(decide (Bg=Ci) && (decide (Bi=B1) && true))=false):aA Tp 0 aDc (iX r t i) .ret (cK (iX r t i) [(4,(pB false))]):=aA.fi (gN bp [] [(4,0)]) [bT,.x (.agg [(aB Bg),(aD Bi)]),.x (.agg [(aB Ci),(aD B1)]),bT] (gc (cZ h3) (gc (bE (E:=cE) (i:=i) (k:=2) (fun _=>rfl) h2 rfl) (gc (cC (E:=cE) (i:=i) (k:=2) (fun _=>rfl) h2) (gc (bD (E:=cE) (k:=2) (i:=(i:Int)) (fun _=>rfl) (by decide) (Bu _) h2) (gc (bE (E:=cE) (i:=i) (k:=2) (fun _=>rfl) h1 rfl) (gc (cC (E:=cE) (i:=i) (k:=2) (fun _=>rfl) h1) (gc (bD (E:=cE) (k:=2) (i:=(i:Int)) (fun _=>rfl) (by decide) (Bu _) h1) (g0 h0))))))))
theorem aVq(h3:(decide (Bg=Ci) && (decide (Bi=B1) && true))=true)(h4:co i)(Aj:i'=(i+1)):aA Tp 0 aDc (iX r t i) .normal (iX r t i'):=by
 subst Aj;exact aA.fi (gZ bv) [bT,.x (.agg [(aB Bg),(aD Bi)]),.x (.agg [(aB Ci),(aD B1)]),bF] (gc h4 (gc (aX h3) (gc (bE (E:=cE) (i:=i) (k:=2) (fun _=>rfl) h2 rfl) (gc (cC (E:=cE) (i:=i) (k:=2) (fun _=>rfl) h2) (gc (bD (E:=cE) (k:=2) (i:=(i:Int)) (fun _=>rfl) (by decide) (Bu _) h2) (gc (bE (E:=cE) (i:=i) (k:=2) (fun _=>rfl) h1 rfl) (gc (cC (E:=cE) (i:=i) (k:=2) (fun _=>rfl) h1) (gc (bD (E:=cE) (k:=2) (i:=(i:Int)) (fun _=>rfl) (by decide) (Bu _) h1) (g0 h0)))))))))
end
theorem aVr{r t:List Cel}(h0:(r.length:Int)≤(i:Int)):aA Tp 0 aDc (iX r t i) (.exit 0) (iX r t i):=aA.fi (gZ bv) [bF] (gc (bC h0) gn)
theorem pM(r t:List Cel)(h:r.length≤100000){base:Nat}:FV Tp 107 [.p (.sl r.length ((r.map cE).flatten)),.p (.sl t.length ((t.map cE).flatten))] base (pB (decide (r=t))) []:=by
 by_cases hl:r.length=t.length
 ·have hz:(r.zip t).length=r.length:=by rw [List.length_zip,hl,Nat.min_self]
  rcases aF.find (P:=Tp) (k:=0) (b:=aDc) (fun i=>iX r t i) (fun i _=>cK (iX r t i) [(4,.p (blP false))]) (iX r t r.length) .ret (.exit 0) (by simp) (by simp) (fun q:Cel × Cel => !(decide (q.1=q.2))) (r.zip t)
   (fun i q hx hp=>by
    obtain ⟨h1,h2⟩:=dV hx;have hi:=bI h1;obtain ⟨⟨a,z⟩,b,y⟩:=q;exact aVq (by omega) h1 h2 (by rw [vJ];exact (Bool.not_eq_false' _).mp hp) (aT (by omega)) rfl)
   (fun i q hx hp=>by
    obtain ⟨h1,h2⟩:=dV hx;have hi:=bI h1;obtain ⟨⟨a,z⟩,b,y⟩:=q;exact aVp (by omega) h1 h2 (by rw [vJ];exact (Bool.not_eq_true' _).mp hp))
   (by rw [hz];exact aVr (by omega)) with ⟨i,q,h1,h2,h3,h4⟩ | ⟨h1,h2,h3⟩
  ·have hne:decide (r=t)=false:=by
    apply decide_eq_false;intro e;subst e;obtain ⟨q1,q2⟩:=dV h1;rw [q1] at q2
    have:q.1=q.2:=by simpa using q2
    simp [this] at h3
   rw [hne];exact bSa (by omega) h4
  ·rw [decide_eq_true (iW r t hl h2)];exact bRz (by omega) h3
 ·have hne:decide (r=t)=false:=decide_eq_false (fun e=>hl (by rw [e]))
  rw [hne];exact bRy (by omega)
def iY(r t:List Cel)(i:Nat):St:=⟨fr 26 [(0,(.p (.sl r.length ((r.map cE).flatten)))),(1,(.p (.sl t.length ((t.map cE).flatten)))),(12,(pI (r.length:Int))),(13,(pI (i:Int)))],[]⟩
theorem bSb{r t:List Cel}(h0:(r.length:Int)≠(t.length:Int)):FV Tp 167 [(.p (.sl r.length ((r.map cE).flatten))),(.p (.sl t.length ((t.map cE).flatten)))] base (pB false) []:=FV.fi func167 [bT] (gc (fD h0) gn)
theorem bSc{r t:List Cel}(h0:(r.length:Int)=(t.length:Int))(An:aF Tp 0 aDd (iY r t 0) (.exit 0) (iY r t Aq)):FV Tp 167 [(.p (.sl r.length ((r.map cE).flatten))),(.p (.sl t.length ((t.map cE).flatten)))] base (pB true) []:=FV.fi func167 [bF,An.k 4 (gZ bv)] (gc An.code (gc (bV h0) gn))
theorem bSd{r t:List Cel}(h0:(r.length:Int)=(t.length:Int))(An:aF Tp 0 aDd (iY r t 0) .ret (cK (iY r t Aq) [(4,(pB false))])):FV Tp 167 [(.p (.sl r.length ((r.map cE).flatten))),(.p (.sl t.length ((t.map cE).flatten)))] base (pB false) []:=FV.fi func167 [bF,An.k 4 (gZ bv)] (gc An.code (gc (bV h0) gn))
section
variable{r t:List Cel}{Bi B1:List UInt8}(h0:(i:Int)<(r.length:Int))(h1:r[i]? = some (Bg,Bi))(h2:t[i]? = some (Ci,B1))
include h0 h1 h2
theorem aVs(h3:(decide (Bg=Ci) && (decide (Bi=B1) && true))=false):aA Tp 0 aDd (iY r t i) .ret (cK (iY r t i) [(4,(pB false))]):=aA.fi (gN bp [] [(4,0)]) [bT,.x (.agg [(aB Bg),(aD Bi)]),.x (.agg [(aB Ci),(aD B1)]),bT] (gc (cZ h3) (gc (bE (E:=cE) (i:=i) (k:=2) (fun _=>rfl) h2 rfl) (gc (cC (E:=cE) (i:=i) (k:=2) (fun _=>rfl) h2) (gc (bD (E:=cE) (k:=2) (i:=(i:Int)) (fun _=>rfl) (by decide) (Bu _) h2) (gc (bE (E:=cE) (i:=i) (k:=2) (fun _=>rfl) h1 rfl) (gc (cC (E:=cE) (i:=i) (k:=2) (fun _=>rfl) h1) (gc (bD (E:=cE) (k:=2) (i:=(i:Int)) (fun _=>rfl) (by decide) (Bu _) h1) (g0 h0))))))))
theorem aVt(h3:(decide (Bg=Ci) && (decide (Bi=B1) && true))=true)(h4:co i)(Aj:i'=(i+1)):aA Tp 0 aDd (iY r t i) .normal (iY r t i'):=by
 subst Aj;exact aA.fi (gZ bv) [bT,.x (.agg [(aB Bg),(aD Bi)]),.x (.agg [(aB Ci),(aD B1)]),bF] (gc h4 (gc (aX h3) (gc (bE (E:=cE) (i:=i) (k:=2) (fun _=>rfl) h2 rfl) (gc (cC (E:=cE) (i:=i) (k:=2) (fun _=>rfl) h2) (gc (bD (E:=cE) (k:=2) (i:=(i:Int)) (fun _=>rfl) (by decide) (Bu _) h2) (gc (bE (E:=cE) (i:=i) (k:=2) (fun _=>rfl) h1 rfl) (gc (cC (E:=cE) (i:=i) (k:=2) (fun _=>rfl) h1) (gc (bD (E:=cE) (k:=2) (i:=(i:Int)) (fun _=>rfl) (by decide) (Bu _) h1) (g0 h0)))))))))
end
theorem aVu{r t:List Cel}(h0:(r.length:Int)≤(i:Int)):aA Tp 0 aDd (iY r t i) (.exit 0) (iY r t i):=aA.fi (gZ bv) [bF] (gc (bC h0) gn)
theorem bEt(r t:List Cel)(h:r.length≤100000){base:Nat}:FV Tp 167 [.p (.sl r.length ((r.map cE).flatten)),.p (.sl t.length ((t.map cE).flatten))] base (pB (decide (r=t))) []:=by
 by_cases hl:r.length=t.length
 ·have hz:(r.zip t).length=r.length:=by rw [List.length_zip,hl,Nat.min_self]
  rcases aF.find (P:=Tp) (k:=0) (b:=aDd) (fun i=>iY r t i) (fun i _=>cK (iY r t i) [(4,.p (blP false))]) (iY r t r.length) .ret (.exit 0) (by simp) (by simp) (fun q:Cel × Cel => !(decide (q.1=q.2))) (r.zip t)
   (fun i q hx hp=>by
    obtain ⟨h1,h2⟩:=dV hx;have hi:=bI h1;obtain ⟨⟨a,z⟩,b,y⟩:=q;exact aVt (by omega) h1 h2 (by rw [vJ];exact (Bool.not_eq_false' _).mp hp) (aT (by omega)) rfl)
   (fun i q hx hp=>by
    obtain ⟨h1,h2⟩:=dV hx;have hi:=bI h1;obtain ⟨⟨a,z⟩,b,y⟩:=q;exact aVs (by omega) h1 h2 (by rw [vJ];exact (Bool.not_eq_true' _).mp hp))
   (by rw [hz];exact aVu (by omega)) with ⟨i,q,h1,h2,h3,h4⟩ | ⟨h1,h2,h3⟩
  ·have hne:decide (r=t)=false:=by
    apply decide_eq_false;intro e;subst e;obtain ⟨q1,q2⟩:=dV h1;rw [q1] at q2
    have:q.1=q.2:=by simpa using q2
    simp [this] at h3
   rw [hne];exact bSd (by omega) h4
  ·rw [decide_eq_true (iW r t hl h2)];exact bSc (by omega) h3
 ·have hne:decide (r=t)=false:=decide_eq_false (fun e=>hl (by rw [e]))
  rw [hne];exact bSb (by omega)
def iZ(r t:List Cel)(i:Nat):St:=⟨fr 26 [(0,(.p (.sl r.length ((r.map cE).flatten)))),(1,(.p (.sl t.length ((t.map cE).flatten)))),(12,(pI (r.length:Int))),(13,(pI (i:Int)))],[]⟩
theorem bSe{r t:List Cel}(h0:(r.length:Int)≠(t.length:Int)):FV Tp 46 [(.p (.sl r.length ((r.map cE).flatten))),(.p (.sl t.length ((t.map cE).flatten)))] base (pB false) []:=FV.fi func46 [bT] (gc (fD h0) gn)
theorem bSf{r t:List Cel}(h0:(r.length:Int)=(t.length:Int))(An:aF Tp 0 aDe (iZ r t 0) (.exit 0) (iZ r t Aq)):FV Tp 46 [(.p (.sl r.length ((r.map cE).flatten))),(.p (.sl t.length ((t.map cE).flatten)))] base (pB true) []:=FV.fi func46 [bF,An.k 4 (gZ bv)] (gc An.code (gc (bV h0) gn))
theorem bSg{r t:List Cel}(h0:(r.length:Int)=(t.length:Int))(An:aF Tp 0 aDe (iZ r t 0) .ret (cK (iZ r t Aq) [(4,(pB false))])):FV Tp 46 [(.p (.sl r.length ((r.map cE).flatten))),(.p (.sl t.length ((t.map cE).flatten)))] base (pB false) []:=FV.fi func46 [bF,An.k 4 (gZ bv)] (gc An.code (gc (bV h0) gn))
section
variable{r t:List Cel}{Bi B1:List UInt8}(h0:(i:Int)<(r.length:Int))(h1:r[i]? = some (Bg,Bi))(h2:t[i]? = some (Ci,B1))
include h0 h1 h2
theorem aVv(h3:(decide (Bg=Ci) && (decide (Bi=B1) && true))=false):aA Tp 0 aDe (iZ r t i) .ret (cK (iZ r t i) [(4,(pB false))]):=aA.fi (gN bp [] [(4,0)]) [bT,.x (.agg [(aB Bg),(aD Bi)]),.x (.agg [(aB Ci),(aD B1)]),bT] (gc (cZ h3) (gc (bE (E:=cE) (i:=i) (k:=2) (fun _=>rfl) h2 rfl) (gc (cC (E:=cE) (i:=i) (k:=2) (fun _=>rfl) h2) (gc (bD (E:=cE) (k:=2) (i:=(i:Int)) (fun _=>rfl) (by decide) (Bu _) h2) (gc (bE (E:=cE) (i:=i) (k:=2) (fun _=>rfl) h1 rfl) (gc (cC (E:=cE) (i:=i) (k:=2) (fun _=>rfl) h1) (gc (bD (E:=cE) (k:=2) (i:=(i:Int)) (fun _=>rfl) (by decide) (Bu _) h1) (g0 h0))))))))
theorem aVw(h3:(decide (Bg=Ci) && (decide (Bi=B1) && true))=true)(h4:co i)(Aj:i'=(i+1)):aA Tp 0 aDe (iZ r t i) .normal (iZ r t i'):=by
 subst Aj;exact aA.fi (gZ bv) [bT,.x (.agg [(aB Bg),(aD Bi)]),.x (.agg [(aB Ci),(aD B1)]),bF] (gc h4 (gc (aX h3) (gc (bE (E:=cE) (i:=i) (k:=2) (fun _=>rfl) h2 rfl) (gc (cC (E:=cE) (i:=i) (k:=2) (fun _=>rfl) h2) (gc (bD (E:=cE) (k:=2) (i:=(i:Int)) (fun _=>rfl) (by decide) (Bu _) h2) (gc (bE (E:=cE) (i:=i) (k:=2) (fun _=>rfl) h1 rfl) (gc (cC (E:=cE) (i:=i) (k:=2) (fun _=>rfl) h1) (gc (bD (E:=cE) (k:=2) (i:=(i:Int)) (fun _=>rfl) (by decide) (Bu _) h1) (g0 h0)))))))))
end
theorem aVx{r t:List Cel}(h0:(r.length:Int)≤(i:Int)):aA Tp 0 aDe (iZ r t i) (.exit 0) (iZ r t i):=aA.fi (gZ bv) [bF] (gc (bC h0) gn)
theorem bEu(r t:List Cel)(h:r.length≤100000){base:Nat}:FV Tp 46 [.p (.sl r.length ((r.map cE).flatten)),.p (.sl t.length ((t.map cE).flatten))] base (pB (decide (r=t))) []:=by
 by_cases hl:r.length=t.length
 ·have hz:(r.zip t).length=r.length:=by rw [List.length_zip,hl,Nat.min_self]
  rcases aF.find (P:=Tp) (k:=0) (b:=aDe) (fun i=>iZ r t i) (fun i _=>cK (iZ r t i) [(4,.p (blP false))]) (iZ r t r.length) .ret (.exit 0) (by simp) (by simp) (fun q:Cel × Cel => !(decide (q.1=q.2))) (r.zip t)
   (fun i q hx hp=>by
    obtain ⟨h1,h2⟩:=dV hx;have hi:=bI h1;obtain ⟨⟨a,z⟩,b,y⟩:=q;exact aVw (by omega) h1 h2 (by rw [vJ];exact (Bool.not_eq_false' _).mp hp) (aT (by omega)) rfl)
   (fun i q hx hp=>by
    obtain ⟨h1,h2⟩:=dV hx;have hi:=bI h1;obtain ⟨⟨a,z⟩,b,y⟩:=q;exact aVv (by omega) h1 h2 (by rw [vJ];exact (Bool.not_eq_true' _).mp hp))
   (by rw [hz];exact aVx (by omega)) with ⟨i,q,h1,h2,h3,h4⟩ | ⟨h1,h2,h3⟩
  ·have hne:decide (r=t)=false:=by
    apply decide_eq_false;intro e;subst e;obtain ⟨q1,q2⟩:=dV h1;rw [q1] at q2
    have:q.1=q.2:=by simpa using q2
    simp [this] at h3
   rw [hne];exact bSg (by omega) h4
  ·rw [decide_eq_true (iW r t hl h2)];exact bSf (by omega) h3
 ·have hne:decide (r=t)=false:=decide_eq_false (fun e=>hl (by rw [e]))
  rw [hne];exact bSe (by omega)
def jA(R T:List (List Cel))(i:Nat):St:=⟨fr 27 [(0,(.p (.sl R.length (R.map aL)))),(1,(.p (.sl T.length (T.map aL)))),(12,(pI (R.length:Int))),(13,(pI (i:Int)))],[]⟩
theorem bSh{R T:List (List Cel)}(h0:(R.length:Int)≠(T.length:Int)):FV Tp 117 [(.p (.sl R.length (R.map aL))),(.p (.sl T.length (T.map aL)))] base (pB false) []:=FV.fi func117 [bT] (gc (fD h0) gn)
theorem bSi{R T:List (List Cel)}(h0:(R.length:Int)=(T.length:Int))(An:aF Tp 0 aDf (jA R T 0) (.exit 0) (jA R T Aq)):FV Tp 117 [(.p (.sl R.length (R.map aL))),(.p (.sl T.length (T.map aL)))] base (pB true) []:=FV.fi func117 [bF,An.k 4 (gZ bw)] (gc An.code (gc (bV h0) gn))
theorem bSj{R T:List (List Cel)}(h0:(R.length:Int)=(T.length:Int))(An:aF Tp 0 aDf (jA R T 0) .ret (cK (jA R T Aq) [(4,(pB false))])):FV Tp 117 [(.p (.sl R.length (R.map aL))),(.p (.sl T.length (T.map aL)))] base (pB false) []:=FV.fi func117 [bF,An.k 4 (gZ bw)] (gc An.code (gc (bV h0) gn))
section
variable{R T:List (List Cel)}{Ab A2:List Cel}(h0:(i:Int)<(R.length:Int))(h1:R[i]? = some Ab)(h2:T[i]? = some A2)(h3:Ab.length≤100000)
include h0 h1 h2 h3
theorem aVy(h4:(decide (Ab=A2))=false):aA Tp 0 aDf (jA R T i) .ret (cK (jA R T i) [(4,(pB false))]):=have k1:=fk 0 (bEu Ab A2 h3) rfl;aA.fi (gN [2,2,5,7,14,13] [] [(4,0)]) [bT,.x (.sl Ab.length ((Ab.map cE).flatten)),.x (.sl A2.length ((A2.map cE).flatten)),k1.o,bT] (gc (cZ h4) (gc k1 (gc (atm aL h2) (gc (ixn aL h2) (gc (atm aL h1) (gc (ixn aL h1) (g0 h0)))))))
theorem aVz(h4:(decide (Ab=A2))=true)(h5:co i)(Aj:i'=(i+1)):aA Tp 0 aDf (jA R T i) .normal (jA R T i'):=by
 subst Aj;have k1:=fk 0 (bEu Ab A2 h3) rfl;exact aA.fi (gZ bw) [bT,.x (.sl Ab.length ((Ab.map cE).flatten)),.x (.sl A2.length ((A2.map cE).flatten)),k1.o,bF] (gc h5 (gc (aX h4) (gc k1 (gc (atm aL h2) (gc (ixn aL h2) (gc (atm aL h1) (gc (ixn aL h1) (g0 h0))))))))
end
theorem aWa{R T:List (List Cel)}(h0:(R.length:Int)≤(i:Int)):aA Tp 0 aDf (jA R T i) (.exit 0) (jA R T i):=aA.fi (gZ bw) [bF] (gc (bC h0) gn)
theorem bSk(R T:List (List Cel))(h:R.length≤100000)(h2:∀ r∈R,r.length≤100000){base:Nat}:FV Tp 117 [.p (bY R),.p (bY T)] base (pB (decide (R=T))) []:=by
 by_cases hl:R.length=T.length
 ·have hz:(R.zip T).length=R.length:=by rw [List.length_zip,hl,Nat.min_self]
  rcases aF.find (P:=Tp) (k:=0) (b:=aDf) (fun i=>jA R T i) (fun i _=>cK (jA R T i) [(4,.p (blP false))]) (jA R T R.length) .ret (.exit 0) (by simp) (by simp) (fun q:List Cel × List Cel => !(decide (q.1=q.2))) (R.zip T)
   (fun i q hx hp=>by
    obtain ⟨h1,h3⟩:=dV hx;have hi:=bI h1;exact aVz (by omega) h1 h3 (h2 _ (Ch h1)) ((Bool.not_eq_false' _).mp hp) (aT (by omega)) rfl)
   (fun i q hx hp=>by
    obtain ⟨h1,h3⟩:=dV hx;have hi:=bI h1;exact aVy (by omega) h1 h3 (h2 _ (Ch h1)) ((Bool.not_eq_true' _).mp hp))
   (by rw [hz];exact aWa (by omega)) with ⟨i,q,h1,h2,h3,h4⟩ | ⟨h1,h2,h3⟩
  ·have hne:decide (R=T)=false:=by
    apply decide_eq_false;intro e;subst e;obtain ⟨q1,q2⟩:=dV h1;rw [q1] at q2
    have:q.1=q.2:=by simpa using q2
    simp [this] at h3
   rw [hne];exact bSj (by omega) h4
  ·rw [decide_eq_true (iW R T hl h2)];exact bSi (by omega) h3
 ·have hne:decide (R=T)=false:=decide_eq_false (fun e=>hl (by rw [e]))
  rw [hne];exact bSh (by omega)
theorem bSl{R T:List (List Cel)}{r0:Bool}(h0:k=j)(h1:R.length≤100000)(h2:∀ r∈R,r.length≤100000)(Al:r0=(decide (R=T))):FV Tp 24 [(.p (.agg [(aB k),(.sl R.length (R.map aL))])),(.p (.agg [(aB j),(.sl T.length (T.map aL))]))] base (pB r0) []:=by
 subst Al;have k1:=fk 2 (bSk R T h1 h2) rfl;exact FV.fi func24 (rT 5++[k1.o,bT]) (gc (dF h0) (gc k1 (Cy (dF h0) gn)))
theorem bSm{R T:List (List Cel)}(h0:k≠j):FV Tp 24 [(.p (.agg [(aB k),(.sl R.length (R.map aL))])),(.p (.agg [(aB j),(.sl T.length (T.map aL))]))] base (pB false) []:=FV.fi func24 (rF 6) (Ht (bL h0) gn)
theorem bEv(k:Int)(R:List (List Cel))(j:Int)(T:List (List Cel))(h:R.length≤100000)(h2:∀ r∈R,r.length≤100000){base:Nat}:FV Tp 24 [.p (.agg [aB k,bY R]),.p (.agg [aB j,bY T])] base (pB (decide (k=j∧R=T))) []:=by
 by_cases q:k=j
 ·have:=bSl (T:=T) (base:=base) q h h2 rfl
  have e:decide (k=j∧R=T)=decide (R=T):=by simp [q]
  rw [e];exact this
 ·have e:decide (k=j∧R=T)=false:=by simp [q]
  rw [e];exact bSm q
theorem bSn(r:List Cel):((r.map cE).flatten).length=r.length*2:=qU (E:=cE) (k:=2) (fun _=>rfl) r
theorem bSo:FV Tp 86 [] base (.p (.agg [(aB 0),(.sl 2 [(PV.sl (([((7:Int),[]),((0:Int),[]),((1:Int),[])]:List Cel).length) ((([((7:Int),[]),((0:Int),[]),((1:Int),[])]:List Cel).map cE).flatten)),(.sl (([((12:Int),[]),((305:Int),[]),((0:Int),[])]:List Cel).length) ((([((12:Int),[]),((305:Int),[]),((0:Int),[])]:List Cel).map cE).flatten))])])) []:=have k1:=fk 1 (qR 7 0 1) rfl;have k2:=fk 1 (qR 12 305 0) rfl;FV.frz (FMM.fi 0 ⟨[],[],[1],[]⟩ func86 [k1.o,k2.o] (gc k2 (gc k1 gn))) (by kernel_rfl)
def lB:List (List Cel):=[[(7,[]),(0,[]),(1,[])],[(12,[]),(305,[]),(0,[])]]
theorem vK{base:Nat}:FV Tp 86 [] base (.p (.agg [aB 0,bY lB])) []:=bSo
end
section
variable {n nx r0 r1 r2 st x0:Int}{l:List Int}

theorem bEr:(65519:Int)≠0:=by first | decide | simp
abbrev dR(n:Int):PV := .v (.int .u8 n)
theorem bKr(h0:n≤1):FMM Tp 83 [(.ptr 0 0),(pI n)] [some (.box 205 [(.p (.sl l.length (l.map dR))),(pI nx),(.p (.v (.int .u32 st)))])] (pI 0) [some (.box 205 [(.p (.sl l.length (l.map dR))),(pI nx),(.p (.v (.int .u32 st)))])]:=FMM.fi 1 gE func83 (rT 7) (Jp (mD h0) gn)
theorem bKs(h0:(1:Int)<n)(h1:(l.length:Int)=0):FMM Tp 83 [(.ptr 0 0),(pI n)] [some (.box 205 [(.p (.sl l.length (l.map dR))),(pI nx),(.p (.v (.int .u32 st)))])] (pI 0) [some (.box 205 [(.p (.sl l.length (l.map dR))),(pI nx),(.p (.v (.int .u32 st)))])]:=FMM.fi 1 gE func83 (rF 7++[bT]) (gc (dF h1) (Jp (eE h0) gn))
theorem bKt(h0:(1:Int)<n)(h1 h2:(l.length:Int)≠0)(h3:l[(nx.tmod (l.length:Int)).toNat]? = some x0)(h4:0≤(nx.tmod (l.length:Int)))(h5:inR (nx.tdiv (l.length:Int)))(h6:inR (nx+1))(h7:(IntKind.wrap .u32 (nx.tdiv (l.length:Int)))=0)(h8:n≤256)(h9:inR (IntKind.wrap .u32 x0))(Ba:n≠0)(Al:r0=((IntKind.wrap .u32 x0).tmod n))(Dc:r1=(nx+1))(D8:r2=((IntKind.wrap .u32 ((IntKind.wrap .u32 ((IntKind.wrap .u32 ((IntKind.wrap .u32 (st*45))+(IntKind.wrap .u32 x0)))+(IntKind.wrap .u32 ((77:Int)*(IntKind.wrap .u32 (nx.tdiv (l.length:Int)))))))+1)).tmod 65519)):FMM Tp 83 [(.ptr 0 0),(pI n)] [some (.box 205 [(.p (.sl l.length (l.map dR))),(pI nx),(.p (.v (.int .u32 st)))])] (pI r0) [some (.box 205 [(.p (.sl l.length (l.map dR))),(pI r1),(.p (.v (.int .u32 r2)))])]:=by
 subst Al Dc D8;exact FMM.fi 1 gE func83 (rF 8++[.x (.v (.int .u8 x0)),bT,bT,bT,bT]) (gc Ba (gc h9 (gc (mD h8) (A1 (dF h7) (gc bEr (gc h6 (gc h5 (gc h2 (gt ((l.map dR)[((nx.tmod (l.length:Int)).toNat*1)]? = some (.v (.int .u8 x0))) (rP (i:=(nx.tmod (l.length:Int)).toNat) h3) (gc (rQ (g:=dR) h4 h3) (gc h2 (gc (bL h1) (Jp (eE h0) gn)))))))))))))
theorem bKu(h0:(1:Int)<n)(h1 h2:(l.length:Int)≠0)(h3:l[(nx.tmod (l.length:Int)).toNat]? = some x0)(h4:0≤(nx.tmod (l.length:Int)))(h5:inR (nx.tdiv (l.length:Int)))(h6:inR (nx+1))(h7:(IntKind.wrap .u32 (nx.tdiv (l.length:Int)))=0)(h8:(256:Int)<n)(h9:inR (IntKind.wrap .u32 ((IntKind.wrap .u32 (((IntKind.wrap .u32 ((IntKind.wrap .u32 ((IntKind.wrap .u32 ((IntKind.wrap .u32 (st*45))+(IntKind.wrap .u32 x0)))+(IntKind.wrap .u32 ((77:Int)*(IntKind.wrap .u32 (nx.tdiv (l.length:Int)))))))+1)).tmod 65519)*256))+(IntKind.wrap .u32 x0))))(Ba:n≠0)(Al:r0=((IntKind.wrap .u32 ((IntKind.wrap .u32 (((IntKind.wrap .u32 ((IntKind.wrap .u32 ((IntKind.wrap .u32 ((IntKind.wrap .u32 (st*45))+(IntKind.wrap .u32 x0)))+(IntKind.wrap .u32 ((77:Int)*(IntKind.wrap .u32 (nx.tdiv (l.length:Int)))))))+1)).tmod 65519)*256))+(IntKind.wrap .u32 x0))).tmod n))(Dc:r1=(nx+1))(D8:r2=((IntKind.wrap .u32 ((IntKind.wrap .u32 ((IntKind.wrap .u32 ((IntKind.wrap .u32 (st*45))+(IntKind.wrap .u32 x0)))+(IntKind.wrap .u32 ((77:Int)*(IntKind.wrap .u32 (nx.tdiv (l.length:Int)))))))+1)).tmod 65519)):FMM Tp 83 [(.ptr 0 0),(pI n)] [some (.box 205 [(.p (.sl l.length (l.map dR))),(pI nx),(.p (.v (.int .u32 st)))])] (pI r0) [some (.box 205 [(.p (.sl l.length (l.map dR))),(pI r1),(.p (.v (.int .u32 r2)))])]:=by
 subst Al Dc D8;exact FMM.fi 1 gE func83 (rF 8++[.x (.v (.int .u8 x0)),bT,bT,bT,bF]) (gc Ba (gc h9 (gc (eE h8) (A1 (dF h7) (gc bEr (gc h6 (gc h5 (gc h2 (gt ((l.map dR)[((nx.tmod (l.length:Int)).toNat*1)]? = some (.v (.int .u8 x0))) (rP (i:=(nx.tmod (l.length:Int)).toNat) h3) (gc (rQ (g:=dR) h4 h3) (gc h2 (gc (bL h1) (Jp (eE h0) gn)))))))))))))
theorem bKv(h0:(1:Int)<n)(h1 h2:(l.length:Int)≠0)(h3:l[(nx.tmod (l.length:Int)).toNat]? = some x0)(h4:0≤(nx.tmod (l.length:Int)))(h5:inR (nx.tdiv (l.length:Int)))(h6:inR (nx+1))(h7:(IntKind.wrap .u32 (nx.tdiv (l.length:Int)))≠0)(h8:inR (IntKind.wrap .u32 ((IntKind.wrap .u32 (((IntKind.wrap .u32 ((IntKind.wrap .u32 ((IntKind.wrap .u32 ((IntKind.wrap .u32 (st*45))+(IntKind.wrap .u32 x0)))+(IntKind.wrap .u32 ((77:Int)*(IntKind.wrap .u32 (nx.tdiv (l.length:Int)))))))+1)).tmod 65519)*256))+(IntKind.wrap .u32 x0))))(h9:n≠0)(Al:r0=((IntKind.wrap .u32 ((IntKind.wrap .u32 (((IntKind.wrap .u32 ((IntKind.wrap .u32 ((IntKind.wrap .u32 ((IntKind.wrap .u32 (st*45))+(IntKind.wrap .u32 x0)))+(IntKind.wrap .u32 ((77:Int)*(IntKind.wrap .u32 (nx.tdiv (l.length:Int)))))))+1)).tmod 65519)*256))+(IntKind.wrap .u32 x0))).tmod n))(Dc:r1=(nx+1))(D8:r2=((IntKind.wrap .u32 ((IntKind.wrap .u32 ((IntKind.wrap .u32 ((IntKind.wrap .u32 (st*45))+(IntKind.wrap .u32 x0)))+(IntKind.wrap .u32 ((77:Int)*(IntKind.wrap .u32 (nx.tdiv (l.length:Int)))))))+1)).tmod 65519)):FMM Tp 83 [(.ptr 0 0),(pI n)] [some (.box 205 [(.p (.sl l.length (l.map dR))),(pI nx),(.p (.v (.int .u32 st)))])] (pI r0) [some (.box 205 [(.p (.sl l.length (l.map dR))),(pI r1),(.p (.v (.int .u32 r2)))])]:=by
 subst Al Dc D8;exact FMM.fi 1 gE func83 (rF 8++[.x (.v (.int .u8 x0)),bF,bF,bF]) (gc h9 (gc h8 (A1 (bL h7) (gc bEr (gc h6 (gc h5 (gc h2 (gt ((l.map dR)[((nx.tmod (l.length:Int)).toNat*1)]? = some (.v (.int .u8 x0))) (rP (i:=(nx.tmod (l.length:Int)).toNat) h3) (gc (rQ (g:=dR) h4 h3) (gc h2 (gc (bL h1) (Jp (eE h0) gn))))))))))))
def Cp(z:Int):Int:=IntKind.wrap .u32 z
theorem aFs(z:Int):0≤Cp z∧Cp z<4294967296:=by
 unfold Cp IntKind.wrap;simp only [IntKind.bits,IntKind.signed,Bool.false_and,Bool.false_eq_true,if_false];omega
def aJg(l:List Int)(nx:Int):Int:=Cp (l.getD (nx.tmod (l.length:Int)).toNat 0)
def bEs(l:List Int)(nx st:Int):Int:=(Cp (Cp (Cp (Cp (st*45)+aJg l nx)+Cp (77*Cp (nx.tdiv (l.length:Int))))+1)).tmod 65519
def aV(n:Int)(l:List Int)(nx st:Int):Int × Int × Int:=if n≤1∨l.length=0 then (0,nx,st) else
 (if Cp (nx.tdiv (l.length:Int))=0∧n≤256 then (aJg l nx).tmod n else (Cp (Cp (bEs l nx st*256)+aJg l nx)).tmod n,nx+1,bEs l nx st)
theorem jK(n:Int)(l:List Int)(nx st:Int):0≤(aV n l nx st).1∧((aV n l nx st).1<n∨(aV n l nx st).1=0)∧nx≤(aV n l nx st).2.1∧(aV n l nx st).2.1≤nx+1:=by
 unfold aV
 split
 ·simp;omega
 ·rename_i h
  simp only [not_or] at h
  have h1:∀ z:Int,0≤z→0≤z.tmod n∧z.tmod n<n:=fun z hz=>⟨Int.tmod_nonneg n hz,Int.tmod_lt_of_pos z (by omega)⟩
  have h2:=(aFs (l.getD (nx.tmod (l.length:Int)).toNat 0)).1;have h3:=(aFs (Cp (bEs l nx st*256)+aJg l nx)).1;dsimp only
  split
  ·have:=h1 _ h2;unfold aJg;omega
  ·have:=h1 _ h3;omega
abbrev pL(l:List Int)(nx st:Int):AO := .box 205 [.p (.sl l.length (l.map dR)),.p (aB nx),.p (.v (.int .u32 st))]
theorem lM(n:Int)(l:List Int)(nx st:Int)(h:0≤nx∧nx≤1000000000):FMM Tp 83 [.ptr 0 0,.p (aB n)] [some (pL l nx st)] (.p (aB (aV n l nx st).1)) [some (pL l (aV n l nx st).2.1 (aV n l nx st).2.2)]:=by
 by_cases h1:n≤1
 ·have e:aV n l nx st=(0,nx,st):=by unfold aV;rw [if_pos (.inl h1)]
  rw [e];exact bKr h1
 ·by_cases h2:l.length=0
  ·have e:aV n l nx st=(0,nx,st):=by unfold aV;rw [if_pos (.inr h2)]
   rw [e];exact bKs (by omega) (by omega)
  ·have h0:0≤nx.tmod (l.length:Int)∧nx.tmod (l.length:Int)<(l.length:Int):=⟨Int.tmod_nonneg _ h.1,Int.tmod_lt_of_pos _ (by omega)⟩
   have hq:0≤nx.tdiv (l.length:Int)∧nx.tdiv (l.length:Int)≤nx:=⟨Int.tdiv_nonneg h.1 (by omega),Int.tdiv_le_self _ h.1⟩
   have hi:(nx.tmod (l.length:Int)).toNat<l.length:=by omega
   have hg:l[(nx.tmod (l.length:Int)).toNat]? = some (l.getD (nx.tmod (l.length:Int)).toNat 0):=by
    rw [B4 hi,tV,B4 hi];rfl
   have hw:∀ z,inR (IntKind.wrap .u32 z):=fun z=>by have:=aFs z;unfold Cp at this;unfold inR;omega
   unfold aV;rw [if_neg (by simp only [not_or];exact ⟨h1,h2⟩)]
   dsimp only
   by_cases h3:Cp (nx.tdiv (l.length:Int))=0
   ·by_cases h4:n≤256
    ·rw [if_pos ⟨h3,h4⟩]
     exact bKt (by omega) (by omega) (by omega) hg h0.1 (by show _∧_;omega) (by show _∧_;omega) h3 h4 (hw _) (by omega) rfl rfl rfl
    ·rw [if_neg (fun h=>h4 h.2)]
     exact bKu (by omega) (by omega) (by omega) hg h0.1 (by show _∧_;omega) (by show _∧_;omega) h3 (by omega) (hw _) (by omega) rfl rfl rfl
   ·rw [if_neg (fun h=>h3 h.1)]
    exact bKv (by omega) (by omega) (by omega) hg h0.1 (by show _∧_;omega) (by show _∧_;omega) h3 (hw _) (by omega) rfl rfl rfl
theorem bRw{lo hi:Int}(h0:inR (hi-lo))(h1:inR ((hi-lo)+1))(h2:0≤nx∧nx≤1000000000)(h3:inR (lo+((aV ((hi-lo)+1) l nx st).1)))(Al:r0=(lo+((aV ((hi-lo)+1) l nx st).1)))(Dc:r1=((aV ((hi-lo)+1) l nx st).2.1))(D8:r2=((aV ((hi-lo)+1) l nx st).2.2)):FMM Tp 81 [(.ptr 0 0),(pI lo),(pI hi)] [some (.box 205 [(.p (.sl l.length (l.map dR))),(pI nx),(.p (.v (.int .u32 st)))])] (pI r0) [some (.box 205 [(.p (.sl l.length (l.map dR))),(pI r1),(.p (.v (.int .u32 r2)))])]:=by
 subst Al Dc D8;have k1:=mq [0] 1 (lM ((hi-lo)+1) l nx st h2);exact FMM.fi 1 gE func81 [k1.o] (gc h3 (gc k1 (gc h1 (gc h0 gn))))
def dJ(lo hi:Int)(l:List Int)(nx st:Int):Int × Int × Int:=(lo+(aV (hi-lo+1) l nx st).1,(aV (hi-lo+1) l nx st).2)
theorem nZ(lo hi:Int)(l:List Int)(nx st:Int):lo≤(dJ lo hi l nx st).1∧((dJ lo hi l nx st).1≤hi∨(dJ lo hi l nx st).1=lo)∧nx≤(dJ lo hi l nx st).2.1∧(dJ lo hi l nx st).2.1≤nx+1:=by
 have:=jK (hi-lo+1) l nx st;unfold dJ;dsimp only;omega
theorem aFt(lo hi:Int)(l:List Int)(nx st:Int)(h:0≤nx∧nx≤1000000000)(hb:(-1000000≤lo∧lo≤1000000) ∧ -1000000≤hi∧hi≤1000000):FMM Tp 81 [.ptr 0 0,.p (aB lo),.p (aB hi)] [some (pL l nx st)] (.p (aB (dJ lo hi l nx st).1)) [some (pL l (dJ lo hi l nx st).2.1 (dJ lo hi l nx st).2.2)]:=by
 have:=nZ lo hi l nx st;exact bRw (by show _∧_;omega) (by show _∧_;omega) h (show inR (dJ lo hi l nx st).1 by unfold inR;omega) rfl rfl rfl
theorem cAo:FMM Tp 26 [(.p (.sl l.length (l.map dR)))] [] (.ptr 0 0) [some (.box 205 [(.p (.sl l.length (l.map dR))),(pI 0),(.p (.v (.int .u32 17)))])]:=FMM.fi 0 ⟨[],[0],[],[]⟩ func26 [] gn
theorem bRx{v:Int}(h0:(0:Int)<n)(h1:n≠0)(h2:inR ((v.tmod n)+n))(Al:r0=(((v.tmod n)+n).tmod n)){base:Nat}:FV Tp 34 [(pI v),(pI n)] base (pI r0) []:=by
 subst Al;exact FV.fi func34 [bF] (gc h1 (gc h2 (gc h1 (gc (eE h0) gn))))
end
section
variable {k:Int}{base:Nat}

theorem bRo(h0:k=0):FV Tp 43 [(pI k)] base (.tup [(.p (.sl 3 [(aB 0),(aB 1),(aB 0)])),(pI 1)]) []:=FV.frz (FMM.fi 0 ⟨[],[],[0],[]⟩ func43 [bT] (gc (dF h0) gn)) (by kernel_rfl)
theorem bRp(h0:k≠0)(h1:k=1):FV Tp 43 [(pI k)] base (.tup [(.p (.sl 4 [(aB 0),(aB 0),(aB 0),(aB 1)])),(pI 3)]) []:=FV.frz (FMM.fi 0 ⟨[],[],[0],[]⟩ func43 [bF,bT] (gc (dF h1) (gc (bL h0) gn))) (by kernel_rfl)
section
variable(h0:k≠0)(h1:k≠1)
include h0 h1
theorem bRq(h2:k=2):FV Tp 43 [(pI k)] base (.tup [(.p (.sl 3 [(aB 0),(aB 0),(aB 2)])),(pI 2)]) []:=FV.frz (FMM.fi 0 ⟨[],[],[0],[]⟩ func43 [bF,bF,bT] (gc (dF h2) (gc (bL h1) (gc (bL h0) gn)))) (by kernel_rfl)
theorem bRr(h2:k≠2)(h3:k=3):FV Tp 43 [(pI k)] base (.tup [(.p (.sl 4 [(aB 0),(aB 0),(aB 3),(aB 0)])),(pI 1)]) []:=FV.frz (FMM.fi 0 ⟨[],[],[0],[]⟩ func43 [bF,bF,bF,bT] (gc (dF h3) (gc (bL h2) (gc (bL h1) (gc (bL h0) gn))))) (by kernel_rfl)
theorem bRs(h2:k≠2)(h3:k≠3):FV Tp 43 [(pI k)] base (.tup [(.p (.sl 3 [(aB 0),(aB 0),(aB 0)])),(pI 1)]) []:=FV.frz (FMM.fi 0 ⟨[],[],[0],[]⟩ func43 [bF,bF,bF,bF] (gc (bL h3) (gc (bL h2) (gc (bL h1) (gc (bL h0) gn))))) (by kernel_rfl)
end
theorem bRt(k:Int){base:Nat}:FV Tp 43 [.p (aB k)] base (.tup [.p (bK (aJ k)),.p (aB (aN k))]) []:=by
 unfold aJ aN
 by_cases h0:k=0
 ·subst h0;exact bRo rfl
 ·rw [if_neg h0]
  by_cases h1:k=1
  ·subst h1;exact bRp (by decide) rfl
  ·rw [if_neg h1,if_neg h1]
   by_cases h2:k=2
   ·subst h2;exact bRq (by decide) (by decide) rfl
   ·rw [if_neg h2,if_neg h2]
    by_cases h3:k=3
    ·subst h3;exact bRr (by decide) (by decide) (by decide) rfl
    ·rw [if_neg h3];exact bRs h0 h1 h2 h3
def aAa(v n:Int):Int:=(v.tmod n+n).tmod n
theorem aQn(v:Int){n:Int}(h:0<n) : -n<v.tmod n∧v.tmod n<n:=by
 refine ⟨Int.lt_tmod_of_pos v h,Int.tmod_lt_of_pos v h⟩
theorem aFr(v:Int){n:Int}(h:0<n):0≤aAa v n∧aAa v n<n:=by
 have:=aQn v h;unfold aAa;exact ⟨Int.tmod_nonneg _ (by omega),Int.tmod_lt_of_pos _ h⟩
theorem bEp(v n:Int)(hn:0<n∧n≤1000000){base:Nat}:FV Tp 34 [.p (aB v),.p (aB n)] base (pI (aAa v n)) []:=by
 have:=aQn v hn.1;exact bRx hn.1 (by omega) (by show _∧_;omega) rfl
theorem bRu{v r0:Int}(h0:0<(5:Int)∧(5:Int)≤1000000)(Al:r0=(aAa v 5)):FV Tp 27 [(pI v)] base (pI r0) []:=by
 subst Al;have k1:=fk 0 (bEp v 5 h0) rfl;exact FV.fi func27 [k1.o] (gc k1 gn)
def mU(v:Int):Int:=aAa v 5
theorem bRv(v:Int){base:Nat}:FV Tp 27 [.p (aB v)] base (pI (mU v)) []:=bRu (by decide) rfl
theorem bKq(v:Int):within (mU v) 0 4=true:=by
 have:=aFr v (n:=5) (by decide)
 exact cM.2 (by unfold mU;omega)
theorem bEq{x:Int}(h:0≤x∧x<128):IntKind.wrap .i32 x=x:=by
 unfold IntKind.wrap;simp only [IntKind.bits,IntKind.signed];simp;omega
end
section
variable {k ma mb mc md nx st ta tb tc td Ep Gd most:Int}{l:List Int}{i j q j' q' Il:Nat}

noncomputable abbrev zZ:Code:=sub (cd Tryz.f25) [1,1,1,0,1,0,0,1,1,0,0,1,1,0,1,0,0]
noncomputable abbrev bEk:Code:=sub (cd Tryz.f25) [1,1,1,0,1,0,0]
noncomputable abbrev bEl:Code:=sub (cd Tryz.f25) [1,1,1,0,1,0,0,1,1,0,0,1,1,0,1,0,0,1,1,0,0,1,1,0,1,0,1,1,1,1,1,0,1,0,0]
noncomputable abbrev bEm:Code:=sub (cd Tryz.f25) [1,1,1,0,1,0,0,1,1,0,0,1,1,0,1,0,0,1,1,0,0,1,1,0,1,0,1,1,1,1,1,1,1,0,0]
theorem bOq:((0:Int) == 0)=true:=by first | decide | simp
def pH(l:List Int)(nx st k most:Int)(i Rn:Nat)(Rc:List PV)(ma ta:Int):St:=⟨fr 100 [(0,(.ptr 0 0)),(6,(.ptr 1 0)),(7,(.ptr 2 0)),(8,(.p (bK (aJ k)))),(25,(pI ((aV (most+1) l nx st).1))),(26,(pI (i:Int)))],[some (.box 205 [(.p (.sl l.length (l.map dR))),(pI ma),(.p (.v (.int .u32 ta)))]),some (.box 26 [(pI 0),(.p bM)]),some (.box 26 [(pI k),(.own 3)]),some (.row 78 Rn Rc)]⟩
theorem bRn{Aq:Nat}{R'1:List (List Cel)}{Kb Kc:Int}(h0:inR (most+1))(h1:0≤nx∧nx≤1000000000)(Bp:aF Tp 1 bEk (pH l nx st k most 0 0 [] ((aV (most+1) l nx st).2.1) ((aV (most+1) l nx st).2.2)) (.exit 0) (pH l nx st k most Aq R'1.length ((R'1.map rwE).flatten) Kb Kc)):FMM Tp 25 [(.ptr 0 0),(pI k),(pI most)] [some (.box 205 [(.p (.sl l.length (l.map dR))),(pI nx),(.p (.v (.int .u32 st)))])] (.p (.agg [(aB k),(.sl R'1.length ((R'1.map rwE).flatten))])) [some (.box 205 [(.p (.sl l.length (l.map dR))),(pI Kb),(.p (.v (.int .u32 Kc)))])]:=have k1:=fk 3 (bRt k) rfl;have k2:=mq [0] 3 (lM (most+1) l nx st h1);FMM.fi 1 ⟨[],[],[3],[]⟩ func25 [k1.o,k2.o,Bp.k 1 (gN [1,5,9,16,27,72] [1,2,3] [(102001,78)])] (gc Bp.code (gc k2 (gc h0 (gc k1 gn))))
def eI(l:List Int)(nx st k most:Int)(i:Nat)(R:List (List Cel))(j rn:Nat)(rc:List PV)(mb tb:Int):St:=⟨fr 100 [(0,(.ptr 0 0)),(6,(.ptr 1 0)),(7,(.ptr 2 0)),(8,(.p (bK (aJ k)))),(10,(pI (i:Int))),(11,(.own 4)),(25,(pI ((aV (most+1) l nx st).1))),(26,(pI (i:Int))),(29,(.p (bK (aJ k)))),(30,(pI ((aJ k).length:Int))),(31,(pI (j:Int)))],[some (.box 205 [(.p (.sl l.length (l.map dR))),(pI mb),(.p (.v (.int .u32 tb)))]),some (.box 26 [(pI 0),(.p bM)]),some (.box 26 [(pI k),(.own 3)]),some (.row 78 R.length ((R.map rwE).flatten)),some (.row 80 rn rc)]⟩
theorem aVd{R:List (List Cel)}{Fa:Nat}{Er:List Cel}{G3 G4:Int}{i':Nat}{R':List (List Cel)}(h0:(i:Int)<((aV (most+1) l nx st).1))(An:aF Tp 1 zZ (eI l nx st k most i R 0 0 [] ma ta) (.exit 2) (eI l nx st k most i R Fa Er.length ((Er.map cE).flatten) G3 G4))(h2:[(PV.sl Er.length ((Er.map cE).flatten))].length=1*1∧R.length+1≤1000000)(h3:co i)(Aj:i'=(i+1))(D5:R'.length=(R.length+1))(D6:(R'.map rwE).flatten=(((R.map rwE).flatten)++[(PV.sl Er.length ((Er.map cE).flatten))])):aA Tp 1 bEk (pH l nx st k most i R.length ((R.map rwE).flatten) ma ta) .normal (pH l nx st k most i' R'.length ((R'.map rwE).flatten) G3 G4):=by
 subst Aj;rw [D5,D6];exact aA.fi (gI [1,5,9,16,27,72] [1,2,6]) [bT,An.k 10 (gN aw [1,2,3,4] [(11,80)])] (gc h3 (gc h2 (gc An.code (g0 h0))))
theorem aVe{R:List (List Cel)}(h0:((aV (most+1) l nx st).1)≤(i:Int)):aA Tp 1 bEk (pH l nx st k most i R.length ((R.map rwE).flatten) ma ta) (.exit 0) (pH l nx st k most i R.length ((R.map rwE).flatten) ma ta):=aA.fi (gI [1,5,9,16,27,72] [1,2,3]) [bF] (gc (bC h0) gn)
def pJ(l:List Int)(nx st k most:Int)(i:Nat)(R:List (List Cel))(j:Nat)(r:List Cel)(mb tb:Int)(q:Nat)(z:List UInt8)(mc tc:Int):St:=⟨fr 100 [(0,(.ptr 0 0)),(6,(.ptr 1 0)),(7,(.ptr 2 0)),(8,(.p (bK (aJ k)))),(10,(pI (i:Int))),(11,(.own 4)),(12,(pI (j:Int))),(14,(.ptr 5 0)),(25,(pI ((aV (most+1) l nx st).1))),(26,(pI (i:Int))),(29,(.p (bK (aJ k)))),(30,(pI ((aJ k).length:Int))),(31,(pI (j:Int))),(67,(pI ((dJ 5 8 l mb tb).1))),(68,(pI (q:Int)))],[some (.box 205 [(.p (.sl l.length (l.map dR))),(pI mc),(.p (.v (.int .u32 tc)))]),some (.box 26 [(pI 0),(.p bM)]),some (.box 26 [(pI k),(.own 3)]),some (.row 78 R.length ((R.map rwE).flatten)),some (.row 80 r.length ((r.map cE).flatten)),some (.box 80 [(pI 0),(.p (aD z))])]⟩
def pK(l:List Int)(nx st k most:Int)(i:Nat)(R:List (List Cel))(j:Nat)(r:List Cel)(mb tb:Int)(q:Nat)(z:List UInt8)(md td:Int):St:=⟨fr 100 [(0,(.ptr 0 0)),(6,(.ptr 1 0)),(7,(.ptr 2 0)),(8,(.p (bK (aJ k)))),(10,(pI (i:Int))),(11,(.own 4)),(12,(pI (j:Int))),(14,(.ptr 5 0)),(25,(pI ((aV (most+1) l nx st).1))),(26,(pI (i:Int))),(29,(.p (bK (aJ k)))),(30,(pI ((aJ k).length:Int))),(31,(pI (j:Int))),(38,(pI ((dJ 1 12 l mb tb).1))),(39,(pI (q:Int)))],[some (.box 205 [(.p (.sl l.length (l.map dR))),(pI md),(.p (.v (.int .u32 td)))]),some (.box 26 [(pI 0),(.p bM)]),some (.box 26 [(pI k),(.own 3)]),some (.row 78 R.length ((R.map rwE).flatten)),some (.row 80 r.length ((r.map cE).flatten)),some (.box 80 [(pI 0),(.p (aD z))])]⟩
abbrev bEn(l:List Int)(mb tb:Int):=dJ 1 99 l ((aV 60 l mb tb).2.1) ((aV 60 l mb tb).2.2)
abbrev cCi(l:List Int)(mb tb:Int):=aV 3 l ((bEn l mb tb).2.1) ((bEn l mb tb).2.2)
abbrev bEo(l:List Int)(mb tb:Int):=aV 60 l mb tb
section
variable(h0:(j:Int)<((aJ k).length:Int))(h1:(aJ k)[j]? = some 0)(h2:0≤mb∧mb≤1000000000)(h3:0≤((aV 60 l mb tb).2.1)∧((aV 60 l mb tb).2.1)≤1000000000)(h4:(-1000000≤1∧(1:Int)≤1000000) ∧ -1000000≤99∧(99:Int)≤1000000)(h5:inR (((aV 60 l mb tb).1)*((dJ 1 99 l ((aV 60 l mb tb).2.1) ((aV 60 l mb tb).2.2)).1)))
include h0 h1 h2 h3 h4 h5
theorem aVf{R:List (List Cel)}{r r':List Cel}(h6:(j:Int)=0)(h7:inR ((3:Int)*(i:Int)))(h8:0≤((dJ 1 99 l ((aV 60 l mb tb).2.1) ((aV 60 l mb tb).2.2)).2.1)∧((dJ 1 99 l ((aV 60 l mb tb).2.1) ((aV 60 l mb tb).2.2)).2.1)≤1000000000)(h9:inR (((3:Int)*(i:Int))+((aV 3 l ((dJ 1 99 l ((aV 60 l mb tb).2.1) ((aV 60 l mb tb).2.2)).2.1) ((dJ 1 99 l ((aV 60 l mb tb).2.1) ((aV 60 l mb tb).2.2)).2.2)).1)))(Ba:[(aB (((3:Int)*(i:Int))+((aV 3 l ((dJ 1 99 l ((aV 60 l mb tb).2.1) ((aV 60 l mb tb).2.2)).2.1) ((dJ 1 99 l ((aV 60 l mb tb).2.1) ((aV 60 l mb tb).2.2)).2.2)).1))),(aD ([]:List UInt8))].length=1*2∧r.length+1≤1000000)(C6:co j)(Bv:j'=(j+1))(Di:r'.length=(r.length+1))(Dj:(r'.map cE).flatten=(((r.map cE).flatten)++[(aB (((3:Int)*(i:Int))+((aV 3 l ((dJ 1 99 l ((aV 60 l mb tb).2.1) ((aV 60 l mb tb).2.2)).2.1) ((dJ 1 99 l ((aV 60 l mb tb).2.1) ((aV 60 l mb tb).2.2)).2.2)).1))),(aD ([]:List UInt8))]))(G5:Ep=((aV 3 l ((dJ 1 99 l ((aV 60 l mb tb).2.1) ((aV 60 l mb tb).2.2)).2.1) ((dJ 1 99 l ((aV 60 l mb tb).2.1) ((aV 60 l mb tb).2.2)).2.2)).2.1))(G6:Gd=((aV 3 l ((dJ 1 99 l ((aV 60 l mb tb).2.1) ((aV 60 l mb tb).2.2)).2.1) ((dJ 1 99 l ((aV 60 l mb tb).2.1) ((aV 60 l mb tb).2.2)).2.2)).2.2)):aA Tp 1 zZ (eI l nx st k most i R j r.length ((r.map cE).flatten) mb tb) .normal (eI l nx st k most i R j' r'.length ((r'.map cE).flatten) Ep Gd):=by
 subst Bv G5 G6;have k1:=mq [0] 6 (lM 60 l mb tb h2);have k2:=mq [0] 6 (aFt 1 99 l ((bEo l mb tb).2.1) ((bEo l mb tb).2.2) h3 h4);have k3:=mq [0] 6 (lM 3 l ((bEn l mb tb).2.1) ((bEn l mb tb).2.2) h8);rw [Di,Dj];exact aA.fi (gI aw [1,2,3,7]) [bT,.x (aB 0),bT,k1.o,k2.o,bT,k3.o] (gc C6 (gc Ba (gt ([(aB (((3:Int)*(i:Int))+((cCi l mb tb).1))),(aD ([]:List UInt8))].length=2) (by first | decide | simp) (gc h9 (gc k3 (gc h7 (gc (dF h6) (gc h5 (gc k2 (gc k1 (gc bOq (gc (atm aB h1) (gc (ixn aB h1) (g0 h0))))))))))))))
theorem aVg{R:List (List Cel)}{r r':List Cel}(h6:(j:Int)≠0)(h7:[(aB (((aV 60 l mb tb).1)*((dJ 1 99 l ((aV 60 l mb tb).2.1) ((aV 60 l mb tb).2.2)).1))),(aD ([]:List UInt8))].length=1*2∧r.length+1≤1000000)(h8:co j)(Bv:j'=(j+1))(Di:r'.length=(r.length+1))(Dj:(r'.map cE).flatten=(((r.map cE).flatten)++[(aB (((aV 60 l mb tb).1)*((dJ 1 99 l ((aV 60 l mb tb).2.1) ((aV 60 l mb tb).2.2)).1))),(aD ([]:List UInt8))]))(G5:Ep=((dJ 1 99 l ((aV 60 l mb tb).2.1) ((aV 60 l mb tb).2.2)).2.1))(G6:Gd=((dJ 1 99 l ((aV 60 l mb tb).2.1) ((aV 60 l mb tb).2.2)).2.2)):aA Tp 1 zZ (eI l nx st k most i R j r.length ((r.map cE).flatten) mb tb) .normal (eI l nx st k most i R j' r'.length ((r'.map cE).flatten) Ep Gd):=by
 subst Bv G5 G6;have k1:=mq [0] 6 (lM 60 l mb tb h2);have k2:=mq [0] 6 (aFt 1 99 l ((bEo l mb tb).2.1) ((bEo l mb tb).2.2) h3 h4);rw [Di,Dj];exact aA.fi (gI aw [1,2,3,7]) [bT,.x (aB 0),bT,k1.o,k2.o,bF] (gc h8 (gc h7 (gt ([(aB (((bEo l mb tb).1)*((bEn l mb tb).1))),(aD ([]:List UInt8))].length=2) (by first | decide | simp) (gc (bL h6) (gc h5 (gc k2 (gc k1 (gc bOq (gc (atm aB h1) (gc (ixn aB h1) (g0 h0)))))))))))
end
section
variable(h0:(j:Int)<((aJ k).length:Int))
include h0
theorem aVh{R:List (List Cel)}{r r':List Cel}(h1:(aJ k)[j]? = some 1)(h2:0≤mb∧mb≤1000000000)(h3:(j:Int)≠0)(h4:[(aB ((aV 360001 l mb tb).1)),(aD ([]:List UInt8))].length=1*2∧r.length+1≤1000000)(h5:co j)(Bv:j'=(j+1))(Di:r'.length=(r.length+1))(Dj:(r'.map cE).flatten=(((r.map cE).flatten)++[(aB ((aV 360001 l mb tb).1)),(aD ([]:List UInt8))]))(G5:Ep=((aV 360001 l mb tb).2.1))(G6:Gd=((aV 360001 l mb tb).2.2)):aA Tp 1 zZ (eI l nx st k most i R j r.length ((r.map cE).flatten) mb tb) .normal (eI l nx st k most i R j' r'.length ((r'.map cE).flatten) Ep Gd):=by
 subst Bv G5 G6;have k1:=mq [0] 6 (lM 360001 l mb tb h2);rw [Di,Dj];exact aA.fi (gI aw [1,2,3,7]) [bT,.x (aB 1),bF,bT,k1.o,bF] (gc h5 (gc h4 (gt ([(aB ((aV 360001 l mb tb).1)),(aD ([]:List UInt8))].length=2) (by first | decide | simp) (gc (bL h3) (gc k1 (gt (((1:Int) == 1)=true) (by first | decide | simp) (gt (((1:Int) == 0)=false) (by first | decide | simp) (gc (atm aB h1) (gc (ixn aB h1) (g0 h0))))))))))
theorem aVi{R:List (List Cel)}{r:List Cel}{Db:List UInt8}{G7 G8:Int}{r':List Cel}(h1:(aJ k)[j]? = some 2)(h2:0≤mb∧mb≤1000000000)(h3:(-1000000≤5∧(5:Int)≤1000000) ∧ -1000000≤8∧(8:Int)≤1000000)(Fb:aF Tp 1 bEl (pJ l nx st k most i R j r mb tb 0 ([]:List UInt8) ((dJ 5 8 l mb tb).2.1) ((dJ 5 8 l mb tb).2.2)) (.exit 7) (pJ l nx st k most i R j r mb tb Il Db G7 G8))(h5:(j:Int)≠0)(h6:[(aB 0),(aD Db)].length=1*2∧r.length+1≤1000000)(h7:co j)(Bv:j'=(j+1))(Di:r'.length=(r.length+1))(Dj:(r'.map cE).flatten=(((r.map cE).flatten)++[(aB 0),(aD Db)])):aA Tp 1 zZ (eI l nx st k most i R j r.length ((r.map cE).flatten) mb tb) .normal (eI l nx st k most i R j' r'.length ((r'.map cE).flatten) G7 G8):=by
 subst Bv;have k1:=mq [0] 6 (aFt 5 8 l mb tb h2 h3);rw [Di,Dj];exact aA.fi (gI aw [1,2,3,7]) [bT,.x (aB 2),bF,bF,bT,k1.o,Fb.k 1 (gI al ca),bF] (gc h7 (gc h6 (gt ([(aB 0),(aD Db)].length=2) (by first | decide | simp) (gc (bL h5) (gc Fb.code (gc k1 (gt (((2:Int) == 2)=true) (by first | decide | simp) (gt (((2:Int) == 1)=false) (by first | decide | simp) (gt (((2:Int) == 0)=false) (by first | decide | simp) (gc (atm aB h1) (gc (ixn aB h1) (g0 h0))))))))))))
theorem aVj{R:List (List Cel)}{r:List Cel}{Db:List UInt8}{G9 Ha:Int}{r':List Cel}(h1:(aJ k)[j]? = some 3)(h2:0≤mb∧mb≤1000000000)(h3:(-1000000≤1∧(1:Int)≤1000000) ∧ -1000000≤12∧(12:Int)≤1000000)(Fb:aF Tp 1 bEm (pK l nx st k most i R j r mb tb 0 ([]:List UInt8) ((dJ 1 12 l mb tb).2.1) ((dJ 1 12 l mb tb).2.2)) (.exit 5) (pK l nx st k most i R j r mb tb Il Db G9 Ha))(h5:(j:Int)≠0)(h6:[(aB 0),(aD Db)].length=1*2∧r.length+1≤1000000)(h7:co j)(Bv:j'=(j+1))(Di:r'.length=(r.length+1))(Dj:(r'.map cE).flatten=(((r.map cE).flatten)++[(aB 0),(aD Db)])):aA Tp 1 zZ (eI l nx st k most i R j r.length ((r.map cE).flatten) mb tb) .normal (eI l nx st k most i R j' r'.length ((r'.map cE).flatten) G9 Ha):=by
 subst Bv;have k1:=mq [0] 6 (aFt 1 12 l mb tb h2 h3);rw [Di,Dj];exact aA.fi (gI aw [1,2,3,7]) [bT,.x (aB 3),bF,bF,bF,k1.o,Fb.k 1 (gI am ca),bF] (gc h7 (gc h6 (gt ([(aB 0),(aD Db)].length=2) (by first | decide | simp) (gc (bL h5) (gc Fb.code (gc k1 (gt (((3:Int) == 2)=false) (by first | decide | simp) (gt (((3:Int) == 1)=false) (by first | decide | simp) (gt (((3:Int) == 0)=false) (by first | decide | simp) (gc (atm aB h1) (gc (ixn aB h1) (g0 h0))))))))))))
end
theorem aVk{R:List (List Cel)}{r:List Cel}(h0:((aJ k).length:Int)≤(j:Int)):aA Tp 1 zZ (eI l nx st k most i R j r.length ((r.map cE).flatten) mb tb) (.exit 2) (eI l nx st k most i R j r.length ((r.map cE).flatten) mb tb):=aA.fi (gI aw [1,2,3,4]) [bF] (gc (bC h0) gn)
theorem aVl{R:List (List Cel)}{r:List Cel}{z z':List UInt8}{E7 Gb:Int}(h0:(q:Int)<((dJ 5 8 l mb tb).1))(h1:0≤mc∧mc≤1000000000)(h2:0≤((aV 2 l mc tc).1)∧((aV 2 l mc tc).1)≤2∧(2:Int)≤2)(h3:0≤(0:Int)∧(0:Int)≤1∧(1:Int)≤((([120,111]:List UInt8).drop (((aV 2 l mc tc).1).toNat)).length:Int))(h4:z.length+((([120,111]:List UInt8).drop (((aV 2 l mc tc).1).toNat)).take 1).length≤4611686018427387904)(h5:co q)(D7:q'=(q+1))(Kd:z'=(z++((([120,111]:List UInt8).drop (((aV 2 l mc tc).1).toNat)).take 1)))(Mm:E7=((aV 2 l mc tc).2.1))(Mn:Gb=((aV 2 l mc tc).2.2)):aA Tp 1 bEl (pJ l nx st k most i R j r mb tb q z mc tc) .normal (pJ l nx st k most i R j r mb tb q' z' E7 Gb):=by
 subst D7 Kd Mm Mn;have k1:=mq [0] 6 (lM 2 l mc tc h1);exact aA.fi (gI al ca) [bT,k1.o] (gc h5 (gc h4 (gc h3 (gc h2 (gc k1 (g0 h0))))))
theorem aVm{R:List (List Cel)}{r:List Cel}{z:List UInt8}(h0:((dJ 5 8 l mb tb).1)≤(q:Int)):aA Tp 1 bEl (pJ l nx st k most i R j r mb tb q z mc tc) (.exit 7) (pJ l nx st k most i R j r mb tb q z mc tc):=aA.fi (gI al ca) [bF] (gc (bC h0) gn)
theorem aVn{R:List (List Cel)}{r:List Cel}{z z':List UInt8}{Ob Oc:Int}(h0:(q:Int)<((dJ 1 12 l mb tb).1))(h1:0≤md∧md≤1000000000)(h2:inR ((97:Int)+((aV 26 l md td).1)))(h3:0≤(IntKind.wrap .i32 ((97:Int)+((aV 26 l md td).1)))∧(IntKind.wrap .i32 ((97:Int)+((aV 26 l md td).1)))<128)(h4:z.length+[UInt8.ofNat ((IntKind.wrap .i32 ((97:Int)+((aV 26 l md td).1)))).toNat].length≤4611686018427387904)(h5:co q)(D7:q'=(q+1))(Kd:z'=(z++[UInt8.ofNat ((IntKind.wrap .i32 ((97:Int)+((aV 26 l md td).1)))).toNat]))(Mo:Ob=((aV 26 l md td).2.1))(Mp:Oc=((aV 26 l md td).2.2)):aA Tp 1 bEm (pK l nx st k most i R j r mb tb q z md td) .normal (pK l nx st k most i R j r mb tb q' z' Ob Oc):=by
 subst D7 Kd Mo Mp;have k1:=mq [0] 6 (lM 26 l md td h1);exact aA.fi (gI am ca) [bT,k1.o] (gc h5 (gc h4 (gc h3 (gc h2 (gc k1 (g0 h0))))))
theorem aVo{R:List (List Cel)}{r:List Cel}{z:List UInt8}(h0:((dJ 1 12 l mb tb).1)≤(q:Int)):aA Tp 1 bEm (pK l nx st k most i R j r mb tb q z md td) (.exit 5) (pK l nx st k most i R j r mb tb q z md td):=aA.fi (gI am ca) [bF] (gc (bC h0) gn)
end
end KV
end Go.Proofs
section
namespace Go.Proofs
open Go.RowKit
namespace KV
open Tryz
variable {P:Program} {C C0:Cx} {M M0:Mem} {w w0:World}

def uM(w:World)(b:Nat):Prop:=∃ o:Obj,w.heap[b]? = some o∧o.isCells=true
theorem sL{b o:Nat}{v:Value}(h:w.cell? ⟨b,o,none⟩=some v):uM w b:=cells_of_cell h
theorem nD{b ty:Nat}{arr:Array Value}{fr:Nat × Nat}(h:w.heap[b]? = some (.cells arr ty fr)):uM w b:=⟨_,h,rfl⟩

mutual
def nmP:PV→Bool
 | .v _=>true
 | .sl _ cs=>iK cs
 | .agg cs=>iK cs
 | .mp _=>false
 | .rp cs _=>iK cs
 | .fn _ a b=>iK a && iK b
def iK:List PV→Bool
 | []=>true
 | x::r=>nmP x && iK r
end
theorem lP:∀ {l:List PV},iK l=true→∀ (i:Nat) (h:i<l.length),nmP l[i]=true
 | [],_,i,h=>by simp at h
 | x::r,hl,i,h=>by
  rw [iK,B0] at hl
  cases i with
  | zero=>exact hl.1
  | succ i=>exact lP hl.2 i (by simpa using h)
mutual
def nmA:AV→Bool
 | .p x=>nmP x
 | .rp cs _=>iK cs
 | .agg l=>nmL l
 | .tup l=>nmL l
 | .fn _ a b=>nmL a && nmL b
 | _=>true
def nmL:List AV→Bool
 | []=>true
 | x::r=>nmA x && nmL r
end
theorem vS:∀ {l:List AV},nmL l=true→∀ (i:Nat) (h:i<l.length),nmA l[i]=true
 | [],_,i,h=>by simp at h
 | x::r,hl,i,h=>by
  rw [nmL,B0] at hl
  cases i with
  | zero=>exact hl.1
  | succ i=>exact vS hl.2 i (by simpa using h)
def nmM:Mem→Bool
 | []=>true
 | some (.row _ _ cs)::r=>iK cs && nmM r
 | some (.box _ l)::r=>nmL l && nmM r
 | _::r=>nmM r
theorem aOp:∀ {m:Mem},nmM m=true→(∀ (i ty n:Nat) (cs:List PV),m[i]? = some (some (.row ty n cs))→iK cs=true)∧∀ (i ty:Nat) (l:List AV),m[i]? = some (some (.box ty l))→nmL l=true
 | [],_=>⟨fun i ty n cs h=>by simp at h,fun i ty l h=>by simp at h⟩
 | x::r,hm=>by
  have hr:nmM r=true:=by
   cases x with
   | none=>exact hm
   | some o=>cases o <;> simp [nmM] at hm <;> first | exact hm.2 | exact hm
  obtain ⟨h1,h2⟩:=aOp hr;refine ⟨fun i ty n cs h => ?_,fun i ty l h => ?_⟩
  ·cases i with
   | zero=>simp at h;subst h;simp [nmM] at hm;exact hm.1
   | succ i=>exact h1 i ty n cs (by simpa using h)
  ·cases i with
   | zero=>simp at h;subst h;simp [nmM] at hm;exact hm.1
   | succ i=>exact h2 i ty l (by simpa using h)
theorem cQ.shrink{F F':Nat→Prop}{x:PV}{u:Value}(h:cQ F w x u)(hF:∀ b,F b→uM w b→F' b)(hm:nmP x=true):cQ F' w x u:=by
 induction h with
 | v x=>exact .v x
 | sl n cs p cap us h1 h2 h3 _ h5 ih =>
  rw [nmP] at hm
  refine .sl n cs p cap us h1 h2 (fun i hi => ?_) (fun i hi=>ih i hi (lP hm i hi)) h5
  obtain ⟨b,o,hp,hb,hc⟩:=h3 i hi;exact ⟨b,o,hp,hF b hb (sL hc),hc⟩
 | agg cs vs h0 h1 _ ih =>
  rw [nmP] at hm
  exact .agg cs vs h0 h1 fun i hi=>ih i hi (lP hm i hi)
 | mp=>simp [nmP] at hm
 | rp cs off b o us h1 _ h3 ih =>
  rw [nmP] at hm
  exact .rp cs off b o us (fun i hi=>⟨hF b (h1 i hi).1 (sL (h1 i hi).2),(h1 i hi).2⟩) (fun i hi=>ih i hi (lP hm i hi)) h3
 | fn f cs ds us vs h1 h2 _ _ Gj Gk =>
  rw [nmP,B0] at hm
  exact .fn f cs ds us vs h1 h2 (fun i hi=>Gj i hi (lP hm.1 i hi)) fun i hi=>Gk i hi (lP hm.2 i hi)
theorem Rep.shrink{F':Nat→Prop}{x:AV}{u:Value}(h:Rep C M w x u)(hF:∀ b,C.F b→uM w b→F' b)(hm:nmA x=true):Rep ⟨C.ι,C.κ,F',[]⟩ M w x u:=by
 induction h with
 | p x u h=>exact .p x u (h.shrink hF (by simpa [nmA] using hm))
 | any u=>exact .any u
 | kb b=>exact .kb b
 | yld l=>exact .yld l
 | own id u h0 ha h=>exact .own id u h0 ha h
 | arr id off n u h0 ha h=>exact .arr id off n u h0 ha h
 | ptr id off u h0 ha h hp=>exact .ptr id off u h0 ha h hp
 | mp id u h0 ha h=>exact .mp id u h0 ha h
 | pa id q u h0 ha h=>exact .pa id q u h0 ha h
 | rp cs off b o us h1 h2 h3 =>
  have Cn:iK cs=true:=by simpa [nmA] using hm
  exact .rp cs off b o us (fun i hi=>⟨hF b (h1 i hi).1 (sL (h1 i hi).2),(h1 i hi).2⟩) (fun i hi=>(h2 i hi).shrink hF (lP Cn i hi)) h3
 | agg cs vs h0 h1 _ ih =>
  have Cn:nmL cs=true:=by simpa [nmA] using hm
  exact .agg cs vs h0 h1 fun i hi=>ih i hi (vS Cn i hi)
 | tup cs vs h1 _ ih =>
  have Cn:nmL cs=true:=by simpa [nmA] using hm
  exact .tup cs vs h1 fun i hi=>ih i hi (vS Cn i hi)
 | fn f cs ds us vs h1 h2 _ _ Gj Gk =>
  have Cn:nmL cs=true∧nmL ds=true:=by simpa [nmA] using hm
  exact .fn f cs ds us vs h1 h2 (fun i hi=>Gj i hi (vS Cn.1 i hi)) fun i hi=>Gk i hi (vS Cn.2 i hi)

def cBh(M:Mem):Prop:=(∀ (i:Nat) (es:List (Value × PV)) (cl:Nat),M[i]? ≠ some (some (.mp es cl)))∧xD M
def oB:Mem→Bool
 | []=>true
 | some (.pk _ _ _ _)::_=>false
 | some (.mp _ _)::_=>false
 | _::r=>oB r
theorem eL:∀ {m:Mem},oB m=true→cBh m
 | [],_=>⟨fun i es cl h=>by simp at h,fun i o h=>by simp at h⟩
 | none::r,hm=>by
  obtain ⟨h1,h2⟩:=eL (m:=r) hm;refine ⟨fun i es cl h => ?_,fun i o h => ?_⟩
  ·cases i with
   | zero=>simp at h
   | succ i=>exact h1 i es cl (by simpa using h)
  ·cases i with
   | zero=>simp at h
   | succ i=>exact h2 i o (by simpa using h)
 | some x::r,hm=>by
  have hr:oB r=true∧x.isPk=false∧∀ es cl,x ≠ .mp es cl:=by
   cases x with
   | pk=>simp [oB] at hm
   | mp=>simp [oB] at hm
   | _=>exact ⟨by simpa [oB] using hm,rfl,fun _ _ e=>by cases e⟩
  obtain ⟨h1,h2⟩:=eL (m:=r) hr.1;refine ⟨fun i es cl h => ?_,fun i o h => ?_⟩
  ·cases i with
   | zero=>simp at h;exact hr.2.2 _ _ h
   | succ i=>exact h1 i es cl (by simpa using h)
  ·cases i with
   | zero=>simp at h;rw [← h];exact hr.2.1
   | succ i=>exact h2 i o (by simpa using h)

theorem aYp{W:World}{b:Nat}{cs:Array Value}(h:vH W b=some cs):uM W b:=by
 unfold vH at h
 split at h
 ·rename_i he
  exact nD he
 ·cases h
theorem qV{W:World}{b:Nat}{o:Obj}(h:W.heap[b]? = some o)(ho:o.isCells=false):¬ uM W b:=fun ⟨o',h',hc⟩=>by rw [h] at h';cases h';rw [ho] at hc;cases hc

structure KpG (F:Nat→Prop) (A B:World):Prop where
 size:A.heap.size≤B.heap.size
 same:∀ b,F b→B.heap[b]? = A.heap[b]?
theorem KpG.refl(F:Nat→Prop)(A:World):KpG F A A:=⟨Bb _,fun _ _=>rfl⟩
theorem KpG.trans{F:Nat→Prop}{A B D:World}(h:KpG F A B)(k:KpG F B D):KpG F A D:=⟨iE h.size k.size,fun b hb=>(k.same b hb).trans (h.same b hb)⟩

theorem bGy{ro:Option Nat}{n:Nat}:(Fen ro).room n:=fun d hd=>by cases hd
theorem aOq{ro:Option Nat}{n m:Nat}{c:Code}{Q:Exit→Act→World→Prop}{a:Act}(h:c.wpIn (Fen ro) n P Q a w):c.wpIn (Fen ro) m P Q a w:=fun b k cs hro hb _=>h b k cs hro hb bGy

theorem Kl(p q:Nat)(a b:Value)(t:Array Value):(#[p,q].zip #[a,b]).foldl (fun t (x:Nat × Value)=>t.setIfInBounds x.1 x.2) t=(t.setIfInBounds p a).setIfInBounds q b:=by simp

end KV
end Go.Proofs
end
section
namespace Go.Proofs
open Go.RowKit
namespace KV
open Tryz
variable {P:Program} {C C1:Cx} {M M':Mem} {w W:World} {b:Nat}
theorem nC(v:Value){c:Nat}(h:c≠b):(W.setCell ⟨b,0,none⟩ v).heap[c]? = W.heap[c]? := Below.heap_setCell _ _ _ _ (fun e=>h e)
end KV
end Go.Proofs
end
section
namespace Go.Proofs
open Go.RowKit
namespace KV
open Tryz
variable {P:Program} {C:Cx} {M:Mem} {w:World} {b:Nat}
theorem uL:∀ {M:Mem} {n:Nat} {x:Option AO},n<M.length→(aZ M n x).length=M.length
 | [],_,_,h=>by simp at h
 | y::l,0,x,_=>rfl
 | y::l,n+1,x,h=>by
  show (aZ l n x).length+1=l.length+1;rw [uL (by simpa using h)]
def oA(M M':Mem):Prop:=∀ (id:Nat) (es:List (Value × PV)) (cl:Nat),M'[id]? = some (some (.mp es cl))→(∃ o:AO,M[id]? = some (some o))∧∀ j (h:j<es.length),nmP es[j].2=true
theorem oA.no{M M':Mem}(h:oB M'=true):oA M M':=fun id es cl hm=>absurd hm ((eL h).1 _ _ _)
def gC(w:World)(b:Nat)(W:World):World:={ w with heap:=w.heap.setIfInBounds b (W.heap.getD b (.cells #[] 0 (0,0))) }
theorem bZ(w:World)(b:Nat)(W:World):(gC w b W).heap.size=w.heap.size:=by simp [gC]
theorem aKc{w:World}{b:Nat}{W:World}(h:b<w.heap.size)(h2:b<W.heap.size):(gC w b W).heap[b]? = W.heap[b]? := by
 simp [gC,h,h2,Array.getD]
theorem pT{w:World}{b c:Nat}{W:World}(h:c≠b):(gC w b W).heap[c]? = w.heap[c]? := by
 simp [gC,Ne.symm h]
structure aKd (C:Cx) (M:Mem) (w:World) (b:Nat):Prop where
 nF:¬ C.F b
 nL:∀ (id:Nat) (o:AO),M[id]? = some (some o)→o.live=true→C.ι id≠some b
 lt:b<w.heap.size
 Fs:∀ c,C.F c→c<w.heap.size
 ls:∀ (id:Nat) (o:AO) (c:Nat),M[id]? = some (some o)→o.live=true→C.ι id=some c→c<w.heap.size
def oP(P:Program)(C:Cx)(M:Mem)(w:World)(b:Nat)(M':Mem)(W:World):Prop:=∃ C',aW P C' M' W∧Fr C M (gC w b W) C' M' W
theorem oP.nF{M':Mem}{W:World}{C':Cx}(hA:aKd C M w b)(f:Fr C M (gC w b W) C' M' W):¬ C'.F b:=fun h=>by
 rcases f.F2 b h with h | h | ⟨Ef,o0,q1,q2,q3⟩
 ·exact hA.nF h
 ·rw [bZ] at h;have:=hA.lt;omega
 ·exact hA.nL _ _ q1 q2 q3
theorem oP.nL{M':Mem}{W:World}{C':Cx}(hA:aKd C M w b)(f:Fr C M (gC w b W) C' M' W):∀ (id:Nat) (o:AO),M'[id]? = some (some o)→o.live=true→C'.ι id≠some b:=fun id o ho hl he=>by
 rcases f.new id o b ho hl he with h | ⟨Ef,o0,q1,q2,q3⟩
 ·rw [bZ] at h;have:=hA.lt;omega
 ·exact hA.nL _ _ q1 q2 q3
theorem aRm{M':Mem}{W w1:World}{C':Cx}(hmp:oA M M')(hls:∀ (id:Nat) (o:AO) (c:Nat),M[id]? = some (some o)→o.live=true→C.ι id=some c→c<w.heap.size)(f:Fr C M w1 C' M' W){id:Nat}{es:List (Value × PV)}{cl c:Nat}(hm:M'[id]? = some (some (.mp es cl)))(hb:C'.ι id=some c):c<w.heap.size:=by
 obtain ⟨⟨o,ho⟩,_⟩:=hmp _ _ _ hm;have hl:=f.liv _ _ ho _ hm rfl;rw [(f.ids _ _ ho).2.1] at hb
 exact hls _ _ _ ho hl hb
theorem cBg{M':Mem}{W:World}(hmp:oA M M')(hq:nmM M'=true)(hF:∀ b,C.F b→b<w.heap.size){C':Cx}(hM:aW P C' M' W)(f:Fr C M w C' M' W) :
  ∃ F':Nat→Prop,aW P ⟨C'.ι,C'.κ,F',[]⟩ M' W∧Fr C M w ⟨C'.ι,C'.κ,F',[]⟩ M' W∧(∀ b,F' b→C'.F b)∧(∀ b,F' b→b<w.heap.size∨uM W b):=by
 refine ⟨fun b=>C'.F b∧(b<w.heap.size∨uM W b),⟨fun i ty n cs hm => ?_,fun i ty cs hm => ?_,fun i es cl hm => ?_,hM.inj,fun i o b ho hl hb hf=>hM.nF i o b ho hl hb hf.1,fun b hb=>hM.Fs b hb.1,hM.lt,fun p hp=>let ⟨h1,cs,h2,h3⟩:=hM.lib p hp;⟨⟨h1,.inr (aYp h2)⟩,cs,h2,h3⟩⟩,
  ⟨f.os,f.tape,f.out,f.size,f.keep,f.ids,f.row,f.liv,f.new,fun b hb=>⟨f.F1 b hb,.inl (hF b hb)⟩,fun b hb=>f.F2 b hb.1⟩,fun b hb=>hb.1,fun b hb=>hb.2⟩
 ·rcases hM.row _ _ _ _ hm with h4 | ⟨b,arr,inf,q0,q1,q2,q3,q4,q5,q6,q7,q8⟩
  ·exact .inl h4
  ·exact .inr ⟨b,arr,inf,q0,q1,q2,q3,q4,q5,q6,fun j hj=>(q7 j hj).shrink (fun b hb hs=>⟨hb,.inr hs⟩) (lP ((aOp hq).1 _ _ _ _ hm) j hj),q8⟩
 ·obtain ⟨b,arr,q0,q1,q2,q3,q4⟩:=hM.box _ _ _ hm
  exact ⟨b,arr,q0,q1,q2,fun j hj=>(q3 j hj).shrink (fun b hb hs=>⟨hb,.inr hs⟩) (vS ((aOp hq).2 _ _ _ hm) j hj),q4⟩
 ·obtain ⟨b,arr,q0,q1,q2,q3⟩:=hM.mp _ _ _ hm
  refine ⟨b,arr,q0,q1,q2,fun j hj => ?_⟩
  obtain ⟨en,r1,r2,r3,r4⟩:=q3 j hj;exact ⟨en,r1,r2,r3,r4.shrink (fun b hb hs=>⟨hb,.inr hs⟩) ((hmp _ _ _ hm).2 j hj)⟩
theorem oP.own{M':Mem}{W W':World}{row:Option Nat}(hmp:oA M M')(hq:nmM M'=true)(hA:aKd C M w b)(h:oP P C M w b M' W)(hg:W.grownBy W' row)
  (hr:∀ r,row=some r→w.heap.size≤r∧∃ o:Obj,W.heap[r]? = some o∧o.isCells=false):oP P C M w b M' W':=by
 obtain ⟨C1,h1,h2⟩:=h;obtain ⟨F',hM,f,hFF,hS⟩:=cBg hmp hq (by rw [bZ];exact hA.Fs) h1 h2
 have hwW:w.heap.size≤W.heap.size:=by have:=h2.size;rw [bZ] at this;exact this
 have hsame:∀ b,b<W.heap.size→(b<w.heap.size∨uM W b)→W'.heap[b]? = W.heap[b]? := fun b hb hd=>hg.block b hb (fun e=>by
  obtain ⟨q1,o,q2,q3⟩:=hr b e.symm
  rcases hd with hd | hd
  ·omega
  ·exact qV q2 q3 hd)
 rw [bZ] at hS
 have hFz:∀ b,F' b→W'.heap[b]? = W.heap[b]? := fun b hb=>hsame b (hM.Fs b hb) (hS b hb)
 have hL:Le ⟨C1.ι,C1.κ,F',[]⟩ ⟨C1.ι,C1.κ,F',[]⟩ M' M' W W':=⟨fun _ o h=>⟨o,h⟩,fun _ _ _ _ _ cs h=>⟨cs,h⟩,fun _ o h o' h' hl=>by rw [h] at h';cases h';exact ⟨hl,rfl,rfl⟩,fun _ h=>h,hFz⟩
 refine ⟨⟨C1.ι,C1.κ,F',[]⟩,⟨fun i ty n cs hm => ?_,fun i ty cs hm => ?_,fun i es cl hm => ?_,hM.inj,hM.nF,fun b hb=>tW (hM.Fs b hb) hg.size,fun i o b ho hl hb=>tW (hM.lt i o b ho hl hb) hg.size,hM.lib.le hL⟩,
  ⟨hg.os.trans f.os,hg.tape.trans f.tape,hg.output.trans f.out,by rw [bZ];exact iE hwW hg.size,fun c hc hno => ?_,f.ids,f.row,f.liv,fun id o c h q r=>by have:=f.new id o c h q r;rw [bZ] at this ⊢;exact this,f.F1,fun c h=>by have:=f.F2 c h;rw [bZ] at this ⊢;exact this⟩⟩
 ·rcases hM.row _ _ _ _ hm with h4 | ⟨b,arr,inf,q0,q1,q2,q3,q4,q5,q6,q7,q8⟩
  ·exact .inl h4
  ·exact .inr ⟨b,arr,inf,q0,(hsame b (lR.1 q1).1 (.inr (nD q1))).trans q1,q2,q3,q4,q5,q6,fun j hj=>(q7 j hj).mono hL.F hL.fz,q8⟩
 ·obtain ⟨b,arr,q0,q1,q2,q3,q4⟩:=hM.box _ _ _ hm
  exact ⟨b,arr,q0,(hsame b (lR.1 q1).1 (.inr (nD q1))).trans q1,q2,fun j hj=>(q3 j hj).mono hL,q4⟩
 ·obtain ⟨b,arr,q0,q1,q2,q3⟩:=hM.mp _ _ _ hm
  refine ⟨b,arr,q0,(hsame b (lR.1 q1).1 (.inl (aRm hmp hA.ls f hm q0))).trans q1,q2,fun j hj => ?_⟩
  obtain ⟨en,r1,r2,r3,r4⟩:=q3 j hj;exact ⟨en,r1,r2,r3,r4.mono hL.F hL.fz⟩
 ·rw [bZ] at hc
  by_cases e:c=b
  ·subst e
   rw [aKc hc (tW hc (iE hwW hg.size))]
  ·rw [pT e]
   have:=f.keep c (by rw [bZ];exact hc) hno
   rw [pT e] at this
   exact (hsame c (tW hc hwW) (.inl hc)).trans this
theorem oP.set{M':Mem}{W:World}(hA:aKd C M w b)(h:oP P C M w b M' W)(v:Value):oP P C M w b M' (W.setCell ⟨b,0,none⟩ v):=by
 obtain ⟨C1,h1,h2⟩:=h;have hFb:=oP.nF hA h2;have hlb:=oP.nL hA h2;have hsz:(W.setCell ⟨b,0,none⟩ v).heap.size=W.heap.size:=by simp [World.setCell]
 have hwW:w.heap.size≤W.heap.size:=by have:=h2.size;rw [bZ] at this;exact this
 have hFz:∀ c,C1.F c→(W.setCell ⟨b,0,none⟩ v).heap[c]? = W.heap[c]? := fun c hc=>nC v (fun e=>hFb (e ▸ hc))
 have hL:Le C1 C1 M' M' W (W.setCell ⟨b,0,none⟩ v):=⟨fun _ o h=>⟨o,h⟩,fun _ _ _ _ _ cs h=>⟨cs,h⟩,fun _ o h o' h' hl=>by rw [h] at h';cases h';exact ⟨hl,rfl,rfl⟩,fun _ h=>h,hFz⟩
 refine ⟨C1,⟨fun i ty n cs hm => ?_,fun i ty cs hm => ?_,fun i es cl hm => ?_,h1.inj,h1.nF,fun c hc=>by rw [hsz];exact h1.Fs c hc,fun i o c ho hl hb=>by rw [hsz];exact h1.lt i o c ho hl hb,h1.lib.le hL⟩,
  ⟨h2.os,h2.tape,h2.out,by rw [hsz,bZ];exact hwW,fun c hc hno => ?_,h2.ids,h2.row,h2.liv,fun id o c h q r=>by have:=h2.new id o c h q r;rw [bZ] at this ⊢;exact this,h2.F1,fun c h=>by have:=h2.F2 c h;rw [bZ] at this ⊢;exact this⟩⟩
 ·rcases h1.row _ _ _ _ hm with h4 | ⟨c,arr,inf,q0,q1,q2,q3,q4,q5,q6,q7,q8⟩
  ·exact .inl h4
  ·exact .inr ⟨c,arr,inf,q0,(nC v (fun (e:c=b)=>hlb _ _ hm rfl (by rw [← e];exact q0))).trans q1,q2,q3,q4,q5,q6,fun j hj=>(q7 j hj).mono hL.F hL.fz,q8⟩
 ·obtain ⟨c,arr,q0,q1,q2,q3,q4⟩:=h1.box _ _ _ hm
  exact ⟨c,arr,q0,(nC v (fun (e:c=b)=>hlb _ _ hm rfl (by rw [← e];exact q0))).trans q1,q2,fun j hj=>(q3 j hj).mono hL,q4⟩
 ·obtain ⟨c,arr,q0,q1,q2,q3⟩:=h1.mp _ _ _ hm
  refine ⟨c,arr,q0,(nC v (fun (e:c=b)=>hlb _ _ hm rfl (by rw [← e];exact q0))).trans q1,q2,fun j hj => ?_⟩
  obtain ⟨en,r1,r2,r3,r4⟩:=q3 j hj;exact ⟨en,r1,r2,r3,r4.mono hL.F hL.fz⟩
 ·rw [bZ] at hc
  by_cases e:c=b
  ·subst e
   rw [aKc hc (by rw [hsz];omega)]
  ·rw [pT e,nC v e]
   have:=h2.keep c (by rw [bZ];exact hc) hno
   rw [pT e] at this
   exact this
theorem oP.back{bx:Nat}{o:AO}{M':Mem}{W:World}{C':Cx}(ho:M[bx]? = some (some o))(hl:o.live=true)(hb:C.ι bx=some b)(hbl:b<w.heap.size)(f:Fr (C.close bx false) (aZ M bx (some .dead)) (gC w b W) C' M' W):Fr C M w C' M' W:=by
 have h1:=cT (C:=C) (w:=w) false ho hl;refine ⟨f.os,f.tape,f.out,by have:=f.size;rw [bZ] at this;exact this,fun c hc hno => ?_,fun id o1 h => ?_,fun id o1 h ty n cs hm => ?_,fun id o1 h o2 hm Bp => ?_,fun id o1 c h q r => ?_,fun c h=>f.F1 c (h1.F1 c h),fun c h => ?_⟩
 ·have hne:c≠b:=fun e=>hno bx o ho hl (by rw [e];exact hb)
  have:=f.keep c (by rw [bZ];exact hc) (fun id o1 h2 h3 h4=>by
   rcases h1.new id o1 c h2 h3 h4 with q | ⟨Ef,o0,q1,q2,q3⟩
   ·omega
   ·exact hno _ _ q1 q2 q3)
  rw [pT hne] at this
  exact this
 ·obtain ⟨⟨o2,h2⟩,h3,h4⟩:=h1.ids id o1 h
  obtain ⟨h5,h6,h7⟩:=f.ids id o2 h2;exact ⟨h5,h6.trans h3,h7.trans h4⟩
 ·obtain ⟨⟨o2,h2⟩,_⟩:=h1.ids id o1 h
  obtain ⟨Bh,h3⟩:=f.row id o2 h2 _ _ _ hm;exact h1.row id o1 h _ _ _ h3
 ·obtain ⟨⟨o3,h3⟩,_⟩:=h1.ids id o1 h
  exact h1.liv id o1 h o3 h3 (f.liv id o3 h3 o2 hm Bp)
 ·rcases f.new id o1 c h q r with h2 | ⟨Ef,o0,q1,q2,q3⟩
  ·rw [bZ] at h2;exact .inl h2
  ·exact h1.new _ _ _ q1 q2 q3
 ·rcases f.F2 c h with h2 | h2 | ⟨Ef,o0,q1,q2,q3⟩
  ·exact h1.F2 c h2
  ·rw [bZ] at h2;exact .inr (.inl h2)
  ·rcases h1.new _ _ _ q1 q2 q3 with h4 | h4
   ·exact .inr (.inl h4)
   ·exact .inr (.inr h4)
theorem aYo{fid bx:Nat}{o:AO}{u:Value}(h:Rep C M w (.fn fid [] [.ptr bx 0]) u)(ho:M[bx]? = some (some o))(hl:o.live=true):∃ c,u = .func (.func fid) #[] #[.pointer (some ⟨c,0,none⟩)]∧C.ι bx=some c:=by
 cases h with
 | fn _ _ _ us vs h1 h2 h3 h4 =>
  have e1:us = #[]:=Array.eq_empty_of_size_eq_zero (by simpa using h1)
  subst e1;have h5:=h4 0 (by simp)
  obtain ⟨v,rfl⟩:∃ v,vs = #[v]:=by
   have:vs.size=1:=by simpa using h2
   exact ⟨vs[0],by ext i G0 Ev;(· simpa using this);(· have:i=0:=(by omega);subst this;rfl)⟩
  simp at h5
  cases h5 with
  | ptr _ _ _ _ _ q _ =>
   obtain ⟨c,rfl,q2⟩:=q o ho hl;exact ⟨c,rfl,q2⟩
def itB{X β ε:Type}(f:β→X→Except ε β):β→List X→Except ε β
 | a,[] => .ok a
 | a,x::r=>match f a x with
  | .ok a'=>itB f a' r
  | .error e => .error e
theorem aKe{X β ε:Type}(f:β→X→Except ε β):∀ (l:List X) (a:β) (x:X),itB f a (l++[x])=match itB f a l with
  | .ok a'=>f a' x
  | .error e => .error e
 | [],a,x=>by
  show (match f a x with | .ok a'=>itB f a' [] | .error e => .error e)=f a x
  cases f a x <;> rfl
 | y::l,a,x=>by
  show (match f a y with | .ok a'=>itB f a' (l++[x]) | .error e => .error e)=_
  show _=match (match f a y with | .ok a'=>itB f a' l | .error e => .error e) with | .ok a'=>f a' x | .error e => .error e
  cases f a y with
  | ok a'=>exact aKe f l a' x
  | error e=>rfl
theorem aDu{X β ε:Type}(f:β→X→Except ε β){e:ε}:∀ (l m:List X) (a:β),itB f a l = .error e→itB f a (l++m) = .error e
 | [],m,a,h=>by cases h
 | y::l,m,a,h=>by
  have h':(match f a y with | .ok a'=>itB f a' l | .error e => .error e) = .error e:=h
  show (match f a y with | .ok a'=>itB f a' (l++m) | .error e => .error e) = .error e
  cases hf:f a y with
  | ok a'=>rw [hf] at h';exact aDu f l m a' h'
  | error e'=>rw [hf] at h';exact h'
end KV
end Go.Proofs
end
section
namespace Go.Proofs
open Go.RowKit
namespace KV
open Tryz
attribute [local go_sem] Oper.semAt_some
def pU:Nat→List UInt8→List (List UInt8 × Bool)
 | 0,_=>[]
 | k+1,s=>if s=[] then [] else ((Lib.cut s [10]).1,(Lib.cut s [10]).2.2)::pU k (Lib.cut s [10]).2.1
def cG(s:List UInt8):List (List UInt8 × Bool):=pU s.length s
theorem vT{s x:List UInt8}(h:s≠[])(hx:x≠[]):(Lib.cut s x).2.1.length<s.length:=by
 have h1:=List.length_pos_iff.2 h;have h2:=List.length_pos_iff.2 hx;unfold Lib.cut
 split
 ·rw [sI];omega
 ·exact h1
theorem rK:∀ (k j:Nat) (s:List UInt8),s.length≤k→s.length≤j→pU k s=pU j s
 | 0,j,s,h,_=>by
  have:s=[]:=pF (by omega)
  subst this;cases j <;> simp [pU]
 | k+1,0,s,_,h=>by
  have:s=[]:=pF (by omega)
  subst this;simp [pU]
 | k+1,j+1,s,h,h2=>by
  unfold pU
  by_cases hs:s=[]
  ·rw [if_pos hs,if_pos hs]
  ·rw [if_neg hs,if_neg hs]
   have:=vT (s:=s) (x:=[10]) hs (by simp)
   rw [rK k j _ (by omega) (by omega)]
theorem oC:cG []=[]:=rfl
theorem gP{s:List UInt8}(h:s≠[]):cG s=((Lib.cut s [10]).1,(Lib.cut s [10]).2.2)::cG (Lib.cut s [10]).2.1:=by
 have h1:=List.length_pos_iff.2 h;have h2:=vT (s:=s) (x:=[10]) h (by simp)
 unfold cG;obtain ⟨k,hk⟩:∃ k,s.length=k+1:=⟨s.length-1,by omega⟩
 rw [hk,pU,if_neg h];rw [rK k (Lib.cut s [10]).2.1.length _ (by omega) (Bb _)]
theorem sM:∀ (k:Nat) (s:List UInt8),s.length≤k→(cG s).length≤s.length
 | 0,s,h=>by
  have:s=[]:=pF (by omega)
  subst this;exact Bb _
 | k+1,s,h=>by
  by_cases hs:s=[]
  ·subst hs;exact Bb _
  ·have:=vT (s:=s) (x:=[10]) hs (by simp)
   have:=sM k (Lib.cut s [10]).2.1 (by omega)
   rw [gP hs,eT];omega
end KV
end Go.Proofs
end
section
namespace Go.Proofs
open Go.RowKit Go.Lib Go.Shelf
namespace KV
open Tryz
attribute [local go_sem] Oper.semAt_some
def aKf(W:World)(b:Nat):Nat:=match W.cell? ⟨b,0,none⟩ with
 | some (.string s)=>s.size
 | _=>0
theorem bWy{A B:World}(h:Below A.heap.size A B):A.grownBy B none:=⟨h.os,h.tape,h.output,h.size,fun b hb _=>h.block b hb⟩
set_option maxRecDepth 1000000 in
set_option maxHeartbeats 2000000 in
theorem aKg(s:List UInt8)(hs:s.length<100000)(m:Int)(F0:Nat→Prop)(n l b:Nat)(hn:1≤n)(J Jx:List (List UInt8 × Bool)→World→Prop)
  (hY:∀ pre (x:List UInt8 × Bool) W,J pre W→pre++[x] <+: cG s→YieldAt Fence.wide (n-1) Tp l #[.string ⟨x.1.toArray⟩,.bool x.2] W fun e W' =>
   (e = .returned (.bool true)∧J (pre++[x]) W'∧KpG F0 W W')∨(e = .returned (.bool false)∧Jx (pre++[x]) W'))
  (W:World) (hJ:AbidesFrom W.heap.size J) (Jv:F0 0) (hFb:F0 b) (Gg:b≠0)
  (hJb:∀ pre A v,J pre A→J pre (A.setCell ⟨b,0,none⟩ v))
  (hm:W.cell? ⟨0,0,none⟩=some (.int .i64 m)) (hbox:Boxed W b 9 (.string ⟨s.toArray⟩)) (h0:J [] W) :
  CallsIn Fence.wide n Tp 175 #[.func (.yield l) #[] #[],.pointer (some ⟨b,0,none⟩)] W fun e W'=>(∃ v,e = .returned v) ∧
   ((∃ ys,ys=cG s∧J ys W')∨(∃ pre,pre <+: cG s∧Jx pre W')):=by
 have HJ:=hid hJ;have HY:=hid hY;have HJB:=hid hJb;have HB0:=hid hbox;have HJ0:=hid h0;have HM0:=hid hm;clear hJ hY hJb hbox h0 hm;refine callsIn_of_wp func175 rfl trivial ?_ rfl;simp only [Tryz.ntmps175,List.size_toArray,eT,List.length_nil,Nat.reduceAdd,Nat.reduceSub,Array.replicate_succ,Array.replicate_zero,List.push_toArray,List.append_toArray,List.nil_append,List.cons_append]
 gi_wp2
 gi_loopw [3] (fun _ wr=>∃ (pre:List (List UInt8 × Bool)) (t:List UInt8),J pre wr∧pre++cG t=cG s∧t.length≤s.length∧wr.cell? ⟨0,0,none⟩=some (.int .i64 m)∧Boxed wr b 9 (.string ⟨t.toArray⟩))
  (fun _ wr=>aKf wr b)
 case atStart=>exact ⟨[],s,HJ0.out,rfl,Bb _,HM0.out,HB0.out⟩
 case round =>
  obtain ⟨pre,t,hJp,hpre,htl,hm,hB⟩:=hrel;have hc:=hB.cell;have HJP:=hid hJp;have HPRE:=hid hpre;have HM:=hid hm;have HB:=hid hB;clear hJp hpre hm hB
  by_cases ht:t=[]
  ·subst ht
   have HE:=hid (show pre=cG s by rw [← HPRE.out,oC,List.append_nil])
   gi_wp2
   go_end0
   exact ⟨⟨_,rfl⟩,.inl ⟨pre,HE.out,HJP.out⟩⟩
  ·have hne:t.isEmpty=false:=by
    cases t with
    | nil=>exact absurd rfl ht
    | cons a r=>rfl
   have HC:=hid (gP ht);have HLT:=hid (vT (s:=t) (x:=[10]) ht (by simp))
   have HL:pre++[((Lib.cut t [10]).1,(Lib.cut t [10]).2.2)] <+: cG s:=by
    rw [← HPRE.out,HC.out];exact ⟨cG (cut t [10]).2.1,by rw [List.append_assoc];rfl⟩
   have HL:=hid HL;have HCUT:=hid (Tryz.strings_Cut ⟨t.toArray⟩ ⟨#[10]⟩ m wr (by rw [Lib.size_eq];show t.length<_;omega) HM.out)
   have HWR:=hid (fun w1 (Dd:Below wr.heap.size wr w1)=>HJ.out _ wr w1 none HJP.out (bWy Dd) (fun r e=>by cases e))
   gi_wp2_with (first
    | (refine ⟨trivial,?_⟩;gi_at_call 130;refine (callsIn_wide.2 HCUT.out).mono ?_;clear HCUT;rintro e w1 ⟨rfl,k,rfl⟩;obtain ⟨fn,tmps,assign,body,hy,hR⟩:=HY.out _ ((Lib.cut t [10]).1,(Lib.cut t [10]).2.2) (wr.drewN k) (HWR.out _ vY) HL.out)
    | (refine hR.mono ?_;clear hR;rintro e w3 Qd;(rcases Qd with ⟨rfl,Of,Km⟩ | ⟨rfl,hx⟩) <;> first | (have Lo:Boxed w3 b 9 (.string ⟨t.toArray⟩):=(Km.same b hFb).trans HB.out;have N7:=Lo.frozen;have hc3:=Lo.cell;have HJ3:=hid Of;have HK3:=hid Km;have HB3:=hid Lo;clear Of Km Lo) | skip))
   ·have K9:=(HB3.out).set (.string ⟨(cut t [10]).2.1.toArray⟩)
    refine ⟨⟨pre++[((cut t [10]).1,(cut t [10]).2.2)],(cut t [10]).2.1,HJB.out _ _ _ HJ3.out,?_,?_,?_,K9⟩,?_⟩
    ·rw [← HPRE.out,HC.out,List.append_assoc];rfl
    ·have:=HLT.out;omega
    ·rw [gO (Below.heap_setCell _ _ _ 0 (fun e=>Gg e.symm)) 0,gO (HK3.out.same 0 Jv) 0]
     exact HM.out
    ·have e1:aKf (w3.setCell ⟨b,0,none⟩ (.string ⟨(cut t [10]).2.1.toArray⟩)) b=(cut t [10]).2.1.length:=by
      unfold aKf;rw [K9.cell];exact Lib.size_eq _
     have e2:aKf wr b=t.length:=by
      unfold aKf;rw [HB.out.cell];exact Lib.size_eq _
     rw [e1,e2];exact HLT.out
   ·refine bodyPost_ret (results_none rfl _ _ _) rfl ?_
    refine ⟨⟨_,rfl⟩,.inr ⟨pre++[((cut t [10]).1,(cut t [10]).2.2)],?_,hx⟩⟩;rw [← HPRE.out,HC.out];exact ⟨cG (cut t [10]).2.1,by rw [List.append_assoc];rfl⟩
end KV
end Go.Proofs
end
section
namespace Go.Proofs
open Go.RowKit
namespace KV
open Tryz
variable {P:Program} {n:Nat}
def aDw{α:Type}(F:Fence)(n:Nat)(P:Program)(g:Nat)(lb:Array Value)(encs:α→Array Value)(b:Nat)(Kp:World→World→Prop)(S Sp:List α→Prop)(N:List α→α→Prop)(w:World):Prop :=
 ∀ (l:Nat) (J Jx:List α→World→Prop) (W:World),Below w.heap.size w W→AbidesFrom W.heap.size J→AbidesFrom W.heap.size Jx→(∀ pre A v,J pre A→J pre (A.setCell ⟨b,0,none⟩ v)) →
  (∀ pre x W0,J pre W0→N pre x→YieldAt F (n-1) P l (encs x) W0 fun e W' =>
   (e = .returned (.bool true)∧J (pre++[x]) W'∧Kp W0 W')∨(e = .returned (.bool false)∧Jx (pre++[x]) W')) →
  J [] W →
  CallsIn F n P g (#[.func (.yield l) #[] #[]]++lb) W fun e W'=>(∃ v,e = .returned v)∧((∃ xs,S xs∧J xs W')∨(∃ pre,Sp pre∧Jx pre W'))

def bGz{α:Type}(B:Nat)(Kp:World→World→Prop)(I:List α→World→Prop)(Ix:Code→List α→World→Prop)(xs:List α)(V W:World):Exit→Act→World→Prop
 | .normal,_,W'=>KeepsFrom B W W'∧Kp V W'∧I xs W'
 | .ret,_,W'=>KeepsFrom B W W'∧Ix .ret xs W'
 | .exit id,_,W'=>KeepsFrom B W W'∧Ix (.exit id) xs W'
 | .goto t,_,W'=>KeepsFrom B W W'∧Ix (.goto t) xs W'
 | .panic _,_,_=>False
 | .outgrown,_,_=>False

theorem sN{α:Type}{F:Fence}{g:Operand}{ps:Array Tmp}{assign body:Code}{Q:Exit→Act→World→Prop}{a:Act}{w:World}
  (hro:F.round=none) (h1:1≤n) {gf:Nat} {lb:Array Value} (hg:a.eval g = .func (.func gf) #[] lb) (hFg:F.fn gf) (eg:∀ args w,(callFunc gf args).run P w = .ok (.enter gf args) w)
  {encs:α→Array Value} {b:Nat} {Kp:World→World→Prop} {S Sp:List α→Prop} {N:List α→α→Prop} {w0:World} (hseq:aDw F (n-1) P gf lb encs b Kp S Sp N w0)
  (hKt:∀ {A B C:World},Kp A B→Kp B C→Kp A C) (hKb:∀ (W:World) (l:Nat) (o o':Obj),w.heap.size≤l→W.heap[l]? = some o→o.isCells=false→o.isWalk=false→Kp W (W.putObj l o')) (Gg:Below w0.heap.size w0 w) (hps:∀ x,(encs x).size=ps.size)
  (I:List α→World→Prop) (Ix:Code→List α→World→Prop) (hI:OwnFrom w.heap.size I) (hbl:b<w.heap.size) (hIb:∀ pre A v,I pre A→I pre (A.setCell ⟨b,0,none⟩ v)) (hIx:∀ c,OwnFrom w.heap.size (Ix c)) (h0:I [] w) (Ax:List α→α→World→Act→World→Prop) (hAx:∀ pre x V a',OwnFrom w.heap.size (fun (_:Unit) W=>Ax pre x V a' W))
  (hassign:∀ (l:Nat) (pre:List α) (x:α) (V W:World) (K:Act→World→Prop),V=W→I pre V→(∀ a' W',KeepsFrom w.heap.size W W'→Ax pre x V a' W'→K a' W') →
   assign.wpIn (F.inRound l) (n-1-1) P (Exit.then K (fun _ _ _=>False)) { tmps:=(ps.zip (encs x)).foldl (fun t (p,v)=>t.setIfInBounds p v) a.tmps,defers:=[] } W)
  (hbody:∀ (l:Nat) (pre:List α) (x:α) (a':Act) (V W:World),w.heap.size≤l→(∃ r,W.heap[l]? = some (.loop r))→Ax pre x V a' W→N pre x→body.wpIn (F.inRound l) (n-1-1) P (bGz w.heap.size Kp I Ix (pre++[x]) V W) a' W)
  (hdone:∀ (D:Nat) (xs:List α) (W:World),w.heap.size≤D→S xs→I xs W→W.heap[D]? = some (.deferred (some []))→Q .normal { a with defers:={ target := .collected D,args := #[] }::a.defers } W)
  (hstop:∀ (D:Nat) (c:Code) (pre:List α) (W:World),w.heap.size≤D→Sp pre→Ix c pre W→W.heap[D]? = some (.deferred (some []))→c.wpIn F n P Q { a with defers:={ target := .collected D,args := #[] }::a.defers } W) :
  (Code.rangeFunc g ps assign body).wpIn F n P Q a w:=by
 refine wpIn_rangeFunc fun fn hfn => ?_
 rw [hro];obtain ⟨rc,hrc⟩:∃ rc:LoopState→Option Code→Loop,rc=fun st pe=>{ state:=st,pending:=pe,fn,tmps:=a.tmps,params:=ps,assign,body,defers:=w.heap.size }:=⟨_,rfl⟩
 obtain ⟨W1,Jw⟩:∃ W1,(w.alloc (.deferred (some []))).alloc (.loop (rc .ready none))=W1:=⟨_,rfl⟩;have hsz:W1.heap.size=w.heap.size+2:=by rw [← Jw];simp
 have Qe:W1.heap[w.heap.size+1]? = some (.loop (rc .ready none)):=by
  have:=World.alloc_heap_new (w.alloc (.deferred (some []))) (.loop (rc .ready none));rw [World.size_alloc] at this
  rw [← Jw];exact this
 have Qg:W1.heap[w.heap.size]? = some (.deferred (some [])):=by
  rw [← Jw];exact (Below.heap_alloc _ _ _ (by simp)).trans (World.alloc_heap_new w _)
 have Qh:I [] W1:=by rw [← Jw];exact hI.alloc _ (hI.alloc _ h0)
 have Dd:Below w0.heap.size w0 W1:=by
  rw [← Jw];exact Gg.trans ((((Below.refl _ w).alloc (Bb _) _).alloc (by simp) _).mono Gg.size)
 let Bk (st:LoopState) (pe:Option Code) (W:World):Prop:=W.heap[w.heap.size+1]? = some (.loop (rc st pe))∧W.heap[w.heap.size]? = some (.deferred (some []))
 have bkKeep:∀ {st:LoopState} {pe:Option Code} {A B:World} {row:Option Nat},Bk st pe A→A.grownBy B row→(∀ r,row=some r→∃ o:Obj,A.heap[r]? = some o∧o.isWalk=true)→Bk st pe B:=fun hs Ip hr =>
  ⟨(grownBy_keeps Ip hr hs.1 rfl).trans hs.1,(grownBy_keeps Ip hr hs.2 rfl).trans hs.2⟩
 have walkOwn:∀ {A:World} {row:Option Nat},(∀ r,row=some r→W1.heap.size≤r∧∃ o:Obj,A.heap[r]? = some o∧o.isWalk=true)→∀ r,row=some r→w.heap.size≤r∧∃ o:Obj,A.heap[r]? = some o∧o.isCells=false:=fun hr r e=>by
  obtain ⟨hB,o,ho,hw⟩:=hr r e;exact ⟨by omega,o,ho,Obj.not_cells_of_walk hw⟩
 refine ⟨w.heap.size+1,[{ target := .collected w.heap.size,args := #[] }],W1,{ target := .fn (.func gf) lb,args := #[.func (.yield (w.heap.size+1)) #[] #[]] },W1,gf,
  #[.func (.yield (w.heap.size+1)) #[] #[]]++lb,W1,?_,?_,?_,?_,fun _=>h1,?_⟩
 ·rw [← Jw,hrc];exact run_enterLoop_outer _ _ _ _ _
 ·simp only [resolve,hg]
  simp [go_sem]
 ·intro f' Og;simp [Target.leads] at Og;subst Og;exact hFg
 ·simp [invoke,go_sem,eg]
 ·refine (hseq (w.heap.size+1) (fun pre W=>I pre W∧Bk .ready none W) (fun pre W=>∃ c,Ix c pre W∧Bk .done (some c) W) W1 Dd
   (fun s A B row hs Ip hr=>⟨hI s A B row hs.1 Ip (walkOwn hr),bkKeep hs.2 Ip fun r e=>(hr r e).2⟩)
   (fun s A B row hs Ip hr=>by
    obtain ⟨c,hc,hb⟩:=hs;exact ⟨c,hIx c s A B row hc Ip (walkOwn hr),bkKeep hb Ip fun r e=>(hr r e).2⟩)
   (fun s A v hs=>⟨hIb s A v hs.1,(Below.heap_setCell _ _ _ _ (fun e=>by have:w.heap.size+1=b:=e;omega)).trans hs.2.1,(Below.heap_setCell _ _ _ _ (fun e=>by have:w.heap.size=b:=e;omega)).trans hs.2.2⟩)
   ?_ ⟨Qh,Qe,Qg⟩).mono ?_
  ·-- a round
   rintro pre x W ⟨hi,hbk⟩ hlen;have hbW:=hbk;have hlt:w.heap.size+1<W.heap.size:=(lR.1 hbW.1).1;have hy:=run_yield (P:=P) (args:=encs x) hbW.1 (by rw [hrc];exact hps x)
   rw [hrc] at hy
   refine ⟨fn,_,assign,body,hy,roundIn_of_wpIn hfn (hassign _ pre x W W _ rfl hi ?_)⟩;clear hy;intro a' Wa hkf hax;have hl:=hkf.same _ _ (by omega) hbW.1 rfl
   have hk:=hkf.same _ _ (Bb _) hbW.2 rfl;have hlta:w.heap.size+1<Wa.heap.size:=(lR.1 hl).1;refine ⟨_,run_beginRound hl (by rw [hrc]),?_⟩
   have Bp:(Wa.putObj (w.heap.size+1) (.loop { rc .ready none with state := .busy })).heap[w.heap.size+1]? = some (.loop { rc .ready none with state := .busy }):=World.putObj_heap_same hlta
   have Ct:(Wa.putObj (w.heap.size+1) (.loop { rc .ready none with state := .busy })).heap[w.heap.size]? = some (.deferred (some [])):=(World.putObj_heap_other (by omega)).trans hk
   refine wpIn_mono (hbody _ pre x a' W _ (by omega) ⟨_,Bp⟩ ((hAx pre x W a').putObj (s:=()) _ hax (by omega) hl rfl) hlen) ?_
   have fin:∀ (jump:Option Code) (W3:World),KeepsFrom w.heap.size (Wa.putObj (w.heap.size+1) (.loop { rc .ready none with state := .busy })) W3 →
     (Instr.endRound (w.heap.size+1) jump).run P W3 = .ok (.bool jump.isNone) (W3.putObj (w.heap.size+1) (.loop (rc (if jump.isNone then .ready else .done) jump))) ∧
     W3.heap[w.heap.size+1]? = some (.loop { rc .ready none with state := .busy })∧Bk (if jump.isNone then .ready else .done) jump (W3.putObj (w.heap.size+1) (.loop (rc (if jump.isNone then .ready else .done) jump))):=fun jump W3 Hr=>by
    have Ej:=Hr.same _ _ (by omega) Bp rfl
    have hrun:=run_endRound (P:=P) jump Ej;rw [hrc] at hrun
    refine ⟨by rw [hrc];exact hrun,Ej,?_⟩
    exact ⟨World.putObj_heap_same (lR.1 Ej).1,(World.putObj_heap_other (by omega)).trans (Hr.same _ _ (Bb _) Ct rfl)⟩
   rintro e a3 W3 hp;cases e with
   | normal =>
    obtain ⟨Hr,M5,I6⟩:=hp;obtain ⟨hr,Ej,I7⟩:=fin none W3 Hr;exact ⟨_,_,hr,.inl ⟨rfl,⟨hI.putObj _ I6 (by omega) Ej rfl,I7⟩,hKt M5 (hKb _ _ _ _ (by omega) Ej rfl rfl)⟩⟩
   | ret =>
    obtain ⟨Hr,I6⟩:=hp;obtain ⟨hr,Ej,I7⟩:=fin (some .ret) W3 Hr;exact ⟨_,_,hr,.inr ⟨rfl,.ret,(hIx _).putObj _ I6 (by omega) Ej rfl,I7⟩⟩
   | exit id =>
    obtain ⟨Hr,I6⟩:=hp;obtain ⟨hr,Ej,I7⟩:=fin (some (.exit id)) W3 Hr;exact ⟨_,_,hr,.inr ⟨rfl,.exit id,(hIx _).putObj _ I6 (by omega) Ej rfl,I7⟩⟩
   | goto t =>
    obtain ⟨Hr,I6⟩:=hp;obtain ⟨hr,Ej,I7⟩:=fin (some (.goto t)) W3 Hr;exact ⟨_,_,hr,.inr ⟨rfl,.goto t,(hIx _).putObj _ I6 (by omega) Ej rfl,I7⟩⟩
   | panic ch=>exact hp.elim
   | outgrown=>exact hp.elim
  ·-- behind the iterator
   rintro e W2 ⟨⟨v,rfl⟩,(⟨xs,hS,hi,hb⟩ | ⟨pre,hSp,c,hi,hb⟩)⟩
   ·have:=run_endLoop (P:=P) hb.1 (by rw [hrc];simp)
    rw [hrc] at this
    exact ⟨none,_,this,hdone _ xs _ (Bb _) hS (hI.putObj _ hi (by omega) hb.1 rfl) ((World.putObj_heap_other (by omega)).trans hb.2)⟩
   ·have:=run_endLoop (P:=P) hb.1 (by rw [hrc];simp)
    rw [hrc] at this
    exact ⟨some c,_,this,hstop _ c pre _ (Bb _) hSp ((hIx c).putObj _ hi (by omega) hb.1 rfl) ((World.putObj_heap_other (by omega)).trans hb.2)⟩
end KV
end Go.Proofs
end
section
namespace Go.Proofs
open Go.RowKit
namespace KV
open Tryz
def aDv(x:List UInt8 × Bool):Array Value := #[.string ⟨x.1.toArray⟩,.bool x.2]
theorem aYq(s:List UInt8)(hs:s.length<100000)(m:Int)(F0:Nat→Prop)(n b:Nat)(hn:1≤n)(w:World)(Jv:F0 0)(hFb:F0 b)(Gg:b≠0)
  (hm:w.cell? ⟨0,0,none⟩=some (.int .i64 m)) (hbox:Boxed w b 9 (.string ⟨s.toArray⟩)) :
  aDw Fence.wide n Tp 175 #[.pointer (some ⟨b,0,none⟩)] aDv b (KpG F0) (fun ys=>ys=cG s) (fun pre=>pre <+: cG s) (fun pre x=>pre++[x] <+: cG s) w:=by
 intro l J Jx W hb hJ hJx hJb hY h0;have Lm:0<w.heap.size:=aRg hm;exact aKg s hs m F0 n l b hn J Jx (fun pre x W0 hj hlt=>hY pre x W0 hj hlt) W hJ Jv hFb Gg hJb
  (by rw [gO (hb.block 0 Lm) 0];exact hm) ((hb.block b hbox.lt).trans hbox) h0
end KV
end Go.Proofs
end
section
set_option maxRecDepth 1000000
namespace Go.Proofs
open Go.RowKit
namespace KV
open Tryz
theorem bGw{C:Cx}{w:World}(h:oJ C w):C.F 0∧∃ m,w.cell? ⟨0,0,none⟩=some (.int .i64 m):=by
 refine ⟨(h (0,fun cs=>∃ m,cs[0]? = some (.int .i64 m)) (by simp [bRe])).1,?_⟩
 exact (aEj h).1
theorem bGx{P:Program}{C:Cx}{M:Mem}{w:World}{bx ty c:Nat}{v:Value}(hM:aW P C M w)(hbx:M[bx]? = some (some (.box ty [.p (.v v)])))(hc:C.ι bx=some c):Boxed w c ty v:=by
 obtain ⟨b,arr,q0,q1,q2,q3,_⟩:=hM.box _ _ _ hbx;rw [hc] at q0;cases q0
 obtain ⟨u,rfl⟩:∃ u,arr = #[u]:=by
  have:arr.size=1:=by simpa using q2
  exact ⟨arr[0],by ext i G0 Ev;(· simpa using this);(· have:i=0:=(by omega);subst this;rfl)⟩
 have h:=q3 0 (by simp)
 simp at h
 cases h with
 | p _ _ h=>cases h;exact q1
def bU(P:Program)(kb kk:Nat)(body:Code)(st:St)(e:Ex)(m:Mem):Prop:=∃ (E:St) (g:Gh),aA P kb body st e E∧yA E.m=true∧∃ t',gh kk g E=some ⟨t',m⟩
theorem bU.cast{P:Program}{kb kk:Nat}{body:Code}{st:St}{e:Ex}{m m':Mem}(h:bU P kb kk body st e m)(he:m=m'):bU P kb kk body st e m':=he ▸ h
theorem aAo{β ε:Type}{k kb kk gi p1 p2 bx:Nat}{asg body cc:Code}{g0:Gh}(s:List UInt8)(hs:s.length<100000)(Fw:St)(S:β→St)(R:ε→St)(T:List AV)(f:β→List UInt8 × Bool→Except ε β)(a0:β)
  (s1:List AV→List UInt8 × Bool→List AV) (actOf:Act→List UInt8 × Bool→Act)
  (hcc:cc = .rangeFunc (.tmp gi) #[p1,p2] asg body) (P3:Fw.t=T) (hg:T[gi]? = some (.fn 175 [] [.ptr bx 0])) (hbx:Fw.m[bx]? = some (some (.box 9 [.p (aD s)])))
  (hkk:Fw.m.length≤kk) (h0:∃ t',gh kk g0 ⟨T,aZ Fw.m bx (some .dead)⟩=some ⟨t',(S a0).m⟩)
  (hST:∀ a,(S a).t=T) (hRT:∀ e,(R e).t=T)
  (hmp:∀ a,oA (aZ Fw.m bx (some .dead)) (S a).m) (hmpR:∀ e,oA (aZ Fw.m bx (some .dead)) (R e).m) (hpk:∀ a,xD (S a).m) (hpkR:∀ e,xD (R e).m) (Mu:xD (aZ Fw.m bx (some .dead))) (hq:∀ a,nmM (S a).m=true) (hqR:∀ e,nmM (R e).m=true) (hlen:∀ a,(S a).m.length≤kb) (hnrf:nrf body=true)
  (P4:∀ (a:Act) (x:List UInt8 × Bool) (l:Nat) (K:Act→World→Prop) (W:World),K (actOf a x) W→asg.wpIn ((Fen none).inRound l) (3-1-1) Tp (Exit.then K (fun _ _ _=>False)) { tmps:=(#[p1,p2].zip (aDv x)).foldl (fun t (y:Nat × Value)=>t.setIfInBounds y.1 y.2) a.tmps,defers:=[] } W)
  (hA2:∀ (a:Act) (x:List UInt8 × Bool) (C:Cx) (M:Mem) (W:World),cP C M W T a.tmps→cP C M W (s1 T x) (actOf a x).tmps) (P5:∀ (a:Act) (x:List UInt8 × Bool),(actOf a x).defers=[])
  (hbody:∀ pre x a,pre++[x] <+: cG s→itB f a0 pre = .ok a →
   (∀ a',f a x = .ok a'→bU Tp kb kk body ⟨s1 T x,(S a).m⟩ .normal (S a').m)∧(∀ e,f a x = .error e→bU Tp kb kk body ⟨s1 T x,(S a).m⟩ .ret (R e).m)) :
  (∀ a,itB f a0 (cG s) = .ok a→aA Tp k cc Fw .normal (S a))∧(∀ e,itB f a0 (cG s) = .error e→aA Tp k cc Fw .ret (R e)):=by
 have hlk:(aZ Fw.m bx (some .dead)).length≤kk:=by
  rw [uL (Cf.1 hbx).1];exact hkk
 have main:∀ (Qf:Ex→St→Prop),(∀ a,itB f a0 (cG s) = .ok a→Qf .normal (S a))→(∀ e,itB f a0 (cG s) = .error e→Qf .ret (R e)) →
   ∀ (C0:Cx) (M0:Mem) (w0:World) (a:Act) (w:World),M0.length≤k→Sim Tp C0 M0 w0 Fw a w→∀ (ro:Option Nat),jS ro cc→∀ (n:Nat),cc.wpIn (Fen ro) n Tp (fun e' a' w'=>∃ e Ai,Qf e Ai∧e'=e.toExit∧Sim Tp C0 M0 w0 Ai a' w') a w:=by
  intro Qf P6 P7 C0 M0 w0 a w hk B6 ro hro n;subst hcc;have Mv:ro=none:=hro.resolve_right (by simp [nrf])
  subst Mv;refine aOq (n:=3) ?_;obtain ⟨C,hSl,hM,hF,hD⟩:=B6;rw [P3] at hSl
  obtain ⟨b,hu,hb⟩:=aYo (hSl.at hg) hbx rfl
  have hB:=bGx hM hbx hb;obtain ⟨Jv,m,hm⟩:=bGw hM.lib;have hbF:¬ C.F b:=hM.nF _ _ _ hbx rfl hb;have Gg:b≠0:=fun e=>hbF (e ▸ Jv)
  have hbl:b<w.heap.size:=hM.lt _ _ _ hbx rfl hb;obtain ⟨Cd,hCd⟩:∃ Cd,Cd=C.close bx false:=⟨_,rfl⟩;obtain ⟨Md,hMd⟩:∃ Md,Md=aZ Fw.m bx (some .dead):=⟨_,rfl⟩;have hMM:aW Tp Cd Md w:=by rw [hCd,hMd];exact kR hM false hbx rfl
  have hFd:Fr C Fw.m w Cd Md w:=by rw [hCd,hMd];exact cT false hbx rfl
  have hA:aKd Cd Md w b:=by
   refine ⟨fun h => ?_,fun id o ho hl he => ?_,hbl,hMM.Fs,fun id o c ho hl he=>hMM.lt id o c ho hl he⟩
   ·rw [hCd] at h
    rcases h with h | ⟨h,_⟩
    ·exact hbF h
    ·cases h
   ·rw [hMd] at ho
    rw [hCd] at he
    by_cases e:id=bx
    ·subst e;rw [aY] at ho;cases ho;cases hl
    ·have Cq:=(aO Fw.m bx id _ o (fun e'=>e e'.symm)).1 ho
     exact e (hM.inj _ _ _ _ _ Cq hl hbx rfl he hb)
  have hdk:xD Md:=by rw [hMd];exact Mu
  have back:∀ {M':Mem} {W:World} {C':Cx},Fr Cd Md (gC w b W) C' M' W→Fr C Fw.m w C' M' W:=fun fr=>by
   rw [hCd,hMd] at fr
   exact oP.back hbx rfl hb hbl fr
  rw [← hMd] at h0 hlk hmp hmpR
  have hbase:gC w b w=w:=by
   unfold gC;have e:w.heap.setIfInBounds b (w.heap.getD b (.cells #[] 0 (0,0)))=w.heap:=by
    apply Array.ext_getElem?;intro i
    by_cases e:b=i
    ·subst e
     have:w.heap[b]? = some w.heap[b]:=rA hbl;simp [hbl,Array.getD]
    ·simp [e]
   rw [e]
  have hseq:=aYq s hs m (fun c=>C.F c∨c=b) 2 b (by omega) w (.inl Jv) (.inr rfl) Gg hm hB
  have hFl:∀ c,(C.F c∨c=b)→c<w.heap.size:=fun c hc=>hc.elim (hM.Fs c) (fun e=>e ▸ hbl)
  have fin:∀ (D:Nat) (W:World) (st:St),st.t=T→oA Md st.m→nmM st.m=true→xD st.m→w.heap.size≤D→oP Tp Cd Md w b st.m W→W.heap[D]? = some (.deferred (some []))→Sim Tp C0 M0 w0 st { a with defers:={ target := .collected D,args := #[] }::a.defers } W:=by
   intro D W st hT Mw P8 Mx Ic hI hDm;obtain ⟨C1,h1,h2⟩:=hI;obtain ⟨F',Eh,frd,_,hSo⟩:=cBg Mw P8 (by rw [bZ];exact hA.Fs) h1 h2
   have My:=back frd;rw [bZ] at hSo
   refine ⟨_,by rw [hT];exact hSl.le (hM.le My),Eh,hF.trans My,?_⟩
   obtain ⟨⟨l,e1,e2,e3⟩,hR⟩:=hD.fr hM (fun i u1 u2 u3 L h=>by have:=Mx _ _ h;cases this) My
   obtain ⟨⟨l',B7,_,P9⟩,_⟩:=hD;have hll:l=l':=by
    have:=e1.symm.trans B7;exact (List.map_inj_right (fun x y h=>by simpa [mark] using h)).1 this
   refine ⟨⟨D::l,by rw [e1];rfl,List.nodup_cons.2 ⟨fun hin => ?_,e2⟩,fun D' Qa => ?_⟩,hR⟩
   ·rw [hll] at hin
    have:=(lR.1 (P9 D hin).1).1;omega
   ·rcases lA.1 Qa with rfl | hin
    ·refine ⟨hDm,iE hF.size Ic,fun hf => ?_⟩
     rcases hSo _ hf with h | h
     ·omega
     ·exact qV hDm rfl h
    ·exact e3 D' hin
  refine sN (F:=Fen none) (n:=3) rfl (by omega) (gf:=175) hu trivial (fun _ _=>rfl) hseq (fun h k=>h.trans k)
   (fun W l o o' hl h1 h2 h3=>⟨by simp,fun c hc=>(grownBy_putObj' W l o').block c (tW (hFl c hc) (iE hl (Nat.le_of_lt (lR.1 h1).1))) (fun e=>by cases e;have:=hFl _ hc;omega)⟩)
   (Below.refl _ _) (fun _=>rfl)
   (fun pre W=>∃ acc,itB f a0 pre = .ok acc∧oP Tp Cd Md w b (S acc).m W)
   (fun c pre W=>c = .ret∧∃ e,itB f a0 pre = .error e∧oP Tp Cd Md w b (R e).m W)
   (fun pre X Y row hs hg hr=>by
    obtain ⟨acc,h1,h2⟩:=hs;exact ⟨acc,h1,h2.own (hmp _) (hq _) hA hg hr⟩) hbl
   (fun pre A v hs=>by
    obtain ⟨acc,h1,h2⟩:=hs;exact ⟨acc,h1,h2.set hA v⟩)
   (fun c pre X Y row hs hg hr=>by
    obtain ⟨h0,e,h1,h2⟩:=hs;exact ⟨h0,e,h1,h2.own (hmpR _) (hqR _) hA hg hr⟩)
   ⟨a0,rfl,?start⟩
   (fun pre x V a' W=>a'=actOf a x∧(∃ acc,itB f a0 pre = .ok acc∧oP Tp Cd Md w b (S acc).m W)∧KpG (fun c=>C.F c∨c=b) V W∧w.heap.size≤W.heap.size)
   (fun pre x V a' s X Y row hs hg hr=>by
    obtain ⟨e1,⟨acc,h1,h2⟩,e3,e4⟩:=hs;refine ⟨e1,⟨acc,h1,h2.own (hmp _) (hq _) hA hg hr⟩,⟨iE e3.size hg.size,fun c hc => ?_⟩,iE e4 hg.size⟩
    refine (hg.block c (tW (hFl c hc) e4) (fun e => ?_)).trans (e3.same c hc)
    have:=(hr c e.symm).1;have:=hFl c hc;omega)
   ?assign ?body ?done ?stop
  case start =>
   obtain ⟨t',h0⟩:=h0;obtain ⟨C1,_,h1,h2,_⟩:=mF (C0:=Cd.with []) (M0:=Md) (w0:=gC w b w) hlk h0 (show Sim Tp (Cd.with []) Md (gC w b w) ⟨T,Md⟩ { a with defers:=[] } w from
    ⟨Cd,hSl.le (hM.le hFd),hMM,by rw [hbase];exact (Fr.refl _ _ _).based [],.nil rfl hdk⟩)
   exact ⟨C1,h1,h2.unbased⟩
  case assign =>
   intro l pre x V W K hV hI hK;subst hV;obtain ⟨acc,h1,h2⟩:=hI;have hsz:w.heap.size≤V.heap.size:=by
    obtain ⟨_,_,f2⟩:=h2;have:=f2.size;rw [bZ] at this;exact this
   exact P4 a x l K _ (hK _ _ (KeepsFrom.refl _ _) ⟨rfl,⟨acc,h1,h2⟩,KpG.refl _ _,hsz⟩)
  case body =>
   rintro l pre x a' V W hl _ ⟨rfl,⟨acc,hacc,C',Eh,Ig⟩,hKV,hsz⟩ hN;have Qb:=oP.nF hA Ig;have Kk:=oP.nL hA Ig;have hSW:cP C' (S acc).m W T a.tmps:=hSl.le (hM.le (back Ig));have Qc:=hA2 a x _ _ _ hSW;have bd:=hbody pre x acc hN hacc;have hsim:Sim Tp (C'.with []) (S acc).m W ⟨s1 T x,(S acc).m⟩ (actOf a x) W:=⟨C',Qc,Eh,(Fr.refl _ _ _).based [],by rw [P5];exact .nil rfl (hpk acc)⟩
   have keepO:∀ {M2:Mem} {W2:World} {C2:Cx},Fr C' (S acc).m W C2 M2 W2→KeepsFrom w.heap.size W W2∧KpG (fun c=>C.F c∨c=b) V W2:=fun f3=>by
    refine ⟨⟨f3.size,fun c o hc hb ho=>(f3.keep c (lR.1 hb).1 (fun id x hx hlv he => ?_)).trans hb⟩,
     hKV.trans ⟨f3.size,fun c hc=>f3.keep c (tW (hFl c hc) hsz) (fun id o ho hlv he => ?_)⟩⟩
    ·cases x with
     | row ty n cs =>
      rcases Eh.row _ _ _ _ hx with ⟨h1,_⟩ | ⟨b',arr,i,h1,h2,_⟩
      ·rw [he] at h1;cases h1
      ·rw [he] at h1;cases h1;exact qV hb ho (nD h2)
     | box ty cs =>
      obtain ⟨b',arr,h1,h2,_⟩:=Eh.box _ _ _ hx;rw [he] at h1;cases h1;exact qV hb ho (nD h2)
     | mp es cl =>
      have:=aRm (hmp acc) hA.ls Ig hx he;omega
     | pk u1 u2 u3 L=>exact absurd (hpk acc _ _ hx) (by simp [AO.isPk])
     | dead=>cases hlv
    ·rcases hc with hc | rfl
     ·exact Eh.nF _ _ _ ho hlv he ((back Ig).F1 _ hc)
     ·exact Kk _ _ ho hlv he
   have baseO:∀ {M2:Mem} {W2:World} {C2:Cx},Fr C' (S acc).m W C2 M2 W2→Fr Cd Md (gC w b W2) C2 M2 W2:=fun {M2 W2 C2} f3=>by
    have eb:(gC w b W)=(gC w b W2):=by
     have e:W2.heap[b]? = W.heap[b]? := f3.keep b (tW hbl hsz) (fun id o ho hlv he=>Kk _ _ ho hlv he)
     unfold gC;rw [Bw,Bw,e]
    rw [← eb];exact Ig.trans f3
   have hit:=aKe f pre a0 x;rw [hacc] at hit
   cases hfx:f acc x with
   | ok a2 =>
    have I4:itB f a0 (pre++[x]) = .ok a2:=by rw [hit];exact hfx
    obtain ⟨E,g1,hc,hpE,t',Mz⟩:=bd.1 a2 hfx;refine wpIn_mono (hc (C'.with []) (S acc).m W _ W (hlen _) hsim (some l) (.inr hnrf) 1) ?_
    rintro e a3 W2 ⟨rfl,C2,I5,F7,Et,_⟩;obtain ⟨k1,k2⟩:=keepO Et.unbased;obtain ⟨C4,_,M3,M4,_⟩:=mF hlk Mz (show Sim Tp (Cd.with []) Md (gC w b W2) E { a3 with defers:=[] } W2 from ⟨C2,I5,F7,(baseO Et.unbased).based [],.nil rfl (gH hpE)⟩)
    exact ⟨k1,k2,a2,I4,C4,M3,M4.unbased⟩
   | error e2 =>
    have I4:itB f a0 (pre++[x]) = .error e2:=by rw [hit];exact hfx
    obtain ⟨E,g1,hc,hpE,t',Mz⟩:=bd.2 e2 hfx;refine wpIn_mono (hc (C'.with []) (S acc).m W _ W (hlen _) hsim (some l) (.inr hnrf) 1) ?_
    rintro e a3 W2 ⟨rfl,C2,I5,F7,Et,_⟩;obtain ⟨k1,k2⟩:=keepO Et.unbased;obtain ⟨C4,_,M3,M4,_⟩:=mF hlk Mz (show Sim Tp (Cd.with []) Md (gC w b W2) E { a3 with defers:=[] } W2 from ⟨C2,I5,F7,(baseO Et.unbased).based [],.nil rfl (gH hpE)⟩)
    exact ⟨k1,rfl,e2,I4,C4,M3,M4.unbased⟩
  case done =>
   intro D xs W Ic hSx hI hDm;subst hSx;obtain ⟨acc,hacc,hI⟩:=hI;exact ⟨.normal,S acc,P6 acc hacc,rfl,fin D W _ (hST _) (hmp _) (hq _) (hpk _) Ic hI hDm⟩
  case stop =>
   rintro D c pre W Ic hSp ⟨rfl,e,hacc,hI⟩ hDm;refine wpIn_ret ?_;obtain ⟨r,hr⟩:=hSp;exact ⟨.ret,R e,P7 e (by rw [← hr];exact aDu f _ _ _ hacc),rfl,fin D W _ (hRT _) (hmpR _) (hqR _) (hpkR _) Ic hI hDm⟩
 refine ⟨fun a2 hok => ?_,fun e2 her => ?_⟩
 ·intro C0 M0 w0 a w hk B6 ro hro n
  refine wpIn_mono (main (fun e Ai=>e = .normal∧Ai=S a2) (fun a h=>by rw [hok] at h;cases h;exact ⟨rfl,rfl⟩) (fun e h=>by rw [hok] at h;cases h) C0 M0 w0 a w hk B6 ro hro n) ?_
  rintro e' a' w' ⟨e,Ai,⟨rfl,rfl⟩,h1,h2⟩;exact ⟨h1,h2⟩
 ·intro C0 M0 w0 a w hk B6 ro hro n
  refine wpIn_mono (main (fun e Ai=>e = .ret∧Ai=R e2) (fun a h=>by rw [her] at h;cases h) (fun e h=>by rw [her] at h;cases h;exact ⟨rfl,rfl⟩) C0 M0 w0 a w hk B6 ro hro n) ?_
  rintro e' a' w' ⟨e,Ai,⟨rfl,rfl⟩,h1,h2⟩;exact ⟨h1,h2⟩
end KV
end Go.Proofs
end
namespace Go.Proofs
namespace KV
open Tryz
section
theorem aYn{s:List UInt8}(h:(Lib.cut s [10]).2.2=true):(Lib.cut s [10]).1.length+1+(Lib.cut s [10]).2.1.length=s.length:=by
 unfold Lib.cut at h ⊢
 split
 ·rename_i h0
  have h1:=Lib.index_room s [10] h0;simp at h1
  dsimp only;rw [mQ,sI,List.length_singleton];omega
 ·rename_i h0
  rw [if_neg h0] at h
  cases h
theorem bNb(s:List UInt8):(Lib.cut s [10]).1.length≤s.length:=by
 unfold Lib.cut
 split
 ·rw [mQ];omega
 ·exact Bb _
def uK:List (List UInt8 × Bool)→Nat
 | []=>0
 | x::r=>x.1.length+1+uK r
theorem aDs:∀ (l:List (List UInt8 × Bool)) (x:List UInt8 × Bool),uK (l++[x])=uK l+(x.1.length+1)
 | [],x=>by simp [uK]
 | y::l,x=>by simp only [List.cons_append,uK,aDs l x];omega
theorem aDt:∀ (pre:List (List UInt8 × Bool)) (x:List UInt8 × Bool) (s:List UInt8),pre++[x] <+: cG s→(∀ y∈pre,y.2=true)→uK pre+x.1.length≤s.length
 | [],x,s,h,_=>by
  by_cases hs:s=[]
  ·subst hs;simp [oC] at h
  ·rw [gP hs] at h
   have:=(List.cons_prefix_cons.1 h).1;subst this;have:=bNb s;simp only [uK];omega
 | y::pre,x,s,h,hy=>by
  by_cases hs:s=[]
  ·subst hs;simp [oC] at h
  ·rw [gP hs] at h
   obtain ⟨h1,h2⟩:=List.cons_prefix_cons.1 (show y::(pre++[x]) <+: _::_ from h)
   subst h1;have h3:=aYn (s:=s) (hy ((Lib.cut s [10]).1,(Lib.cut s [10]).2.2) (mP ..));have h4:=aDt pre x _ h2 (fun z hz=>hy z (by simp [hz]))
   simp only [uK];omega
theorem aRl:∀ l:List (List UInt8 × Bool),l.length≤uK l
 | []=>Bb _
 | x::l=>by have:=aRl l;simp only [uK,eT];omega
end
section
def spB:List UInt8→List (List UInt8)
 | []=>[[]]
 | c::r=>if c=32 then []::spB r else match spB r with
  | []=>[[c]]
  | f::fs=>(c::f)::fs
theorem aAl(c:UInt8)(s:List UInt8)(x:UInt8):Lib.index (c::s) [x]=if c=x then 0 else if Lib.index s [x] == -1 then -1 else Lib.index s [x]+1:=by
 rw [Lib.index]
 by_cases h:c=x
 ·subst h
  simp
 ·have:([x].isPrefixOf (c::s))=false:=by
   simp only [List.isPrefixOf];simp [Ne.symm h]
  rw [this,if_neg h];rfl
theorem aDr:∀ (s:List UInt8),Lib.splitK [32] 0 (Lib.count s [32]) s=spB s
 | []=>by
  have:Lib.count [] [32]=0:=by decide
  rw [this,Lib.splitK,spB]
 | c::s=>by
  have ih:=aDr s;have hi:=aAl c s 32
  by_cases h:c=32
  ·rw [if_pos h] at hi
   rw [Lib.count_hit (i:=0) (by simp) hi,Nat.add_comm 1,Lib.splitK,hi,spB,if_pos h]
   simpa using ih
  ·rw [if_neg h] at hi
   rw [spB,if_neg h]
   by_cases hm:Lib.index s [32] = -1
   ·rw [if_pos (by simp [hm])] at hi
    rw [Lib.count_miss hm,Lib.splitK] at ih
    rw [Lib.count_miss hi,Lib.splitK,← ih]
   ·have hge:=Lib.index_ge s [32]
    obtain ⟨i,e⟩:∃ i:Nat,Lib.index s [32]=i:=⟨(Lib.index s [32]).toNat,by omega⟩
    rw [if_neg (by simpa using hm),e] at hi
    rw [Lib.count_hit (i:=i) (by simp) e,Nat.add_comm 1,Lib.splitK,e] at ih
    rw [Lib.count_hit (i:=i+1) (by simp) (hi.trans (by omega)),Nat.add_comm 1 (Lib.count (List.drop (i+1+[32].length) (c::s)) [32]),Lib.splitK,hi,← ih]
    have n1:¬ (((i:Nat):Int) == -1)=true:=by simp
    have n2:¬ (((i:Nat):Int)+1 == -1)=true:=by simp;omega
    rw [if_neg n1,if_neg n2];have e1:(((i:Nat):Int)+1).toNat=i+1:=by omega
    rw [e1];simp only [List.length_singleton,Nat.add_zero,List.take_succ_cons,List.drop_succ_cons,Int.toNat_natCast]
theorem xR(s:List UInt8):aU s [32]=spB s:=aDr s
theorem bWw(s:List UInt8):spB s≠[]:=by
 cases s with
 | nil=>simp [spB]
 | cons c r =>
  rw [spB]
  split
  ·simp
  ·split <;> simp
theorem aAm:∀ (s:List UInt8) (x:UInt8),Lib.index s [x] = -1→∀ b∈s,b≠x
 | [],x,h,b,hb=>by simp at hb
 | c::s,x,h,b,hb=>by
  rw [aAl] at h
  split at h
  ·omega
  ·rename_i hc
   have hge:=Lib.index_ge s [x]
   split at h
   ·rename_i hm
    rcases lA.1 hb with rfl | hb
    ·exact hc
    ·exact aAm s x (by simpa using hm) b hb
   ·omega
theorem aAn:∀ (s:List UInt8) (x:UInt8) (i:Nat),Lib.index s [x]=i→(∀ b∈s.take i,b≠x)∧s[i]? = some x
 | [],x,i,h=>by
  have:Lib.index [] [x] = -1:=rfl;rw [this] at h;omega
 | c::s,x,i,h=>by
  rw [aAl] at h
  split at h
  ·rename_i hc
   have:i=0:=by omega
   subst this;exact ⟨fun b hb=>by simp at hb,by simp [hc]⟩
  ·rename_i hc
   have hge:=Lib.index_ge s [x]
   split at h
   ·omega
   ·rename_i hm
    have Cn:Lib.index s [x] ≠ -1:=by simpa using hm
    obtain ⟨j,e⟩:∃ j:Nat,Lib.index s [x]=j:=⟨(Lib.index s [x]).toNat,by omega⟩
    obtain ⟨h1,h2⟩:=aAn s x j e;have:i=j+1:=by omega
    subst this;refine ⟨fun b hb => ?_,by simpa using h2⟩
    rw [List.take_succ_cons] at hb
    rcases lA.1 hb with rfl | hb
    ·exact hc
    ·exact h1 b hb
theorem bWx(s:List UInt8):((Lib.cut s [10]).2.2=true∧s=(Lib.cut s [10]).1++10::(Lib.cut s [10]).2.1∨(Lib.cut s [10]).2.2=false∧(Lib.cut s [10]).1=s∧(Lib.cut s [10]).2.1=[])∧∀ b∈(Lib.cut s [10]).1,b≠10:=by
 have hge:=Lib.index_ge s [10];unfold Lib.cut
 split
 ·rename_i h0
  obtain ⟨i,e⟩:∃ i:Nat,Lib.index s [10]=i:=⟨(Lib.index s [10]).toNat,by omega⟩
  obtain ⟨h1,h2⟩:=aAn s 10 i e;have hi:i<s.length:=(Cf.1 h2).1;have e2:(Lib.index s [10]).toNat=i:=by omega
  dsimp only;rw [e2,List.length_singleton];refine ⟨.inl ⟨rfl,?_⟩,h1⟩;have e1:s.drop i=10::s.drop (i+1):=by
   rw [bDs hi]
   congr 1
   exact (Cf.1 h2).2
  rw [← e1,aUl]
 ·rename_i h0
  exact ⟨.inr ⟨rfl,rfl,rfl⟩,aAm s 10 (by omega)⟩
end
end KV
end Go.Proofs
section
namespace Go.Proofs
open Go.RowKit
namespace KV
open Tryz
theorem bGu{X β ε:Type}{f:β→X→Except ε β}{a b:β}{x:X}(l:List X)(h:f a x = .ok b):itB f a (x::l)=itB f b l:=by
 rw [itB,h]
theorem bGv{X β ε:Type}{f:β→X→Except ε β}{a:β}{e:ε}{x:X}(l:List X)(h:f a x = .error e):itB f a (x::l) = .error e:=by
 rw [itB,h]
end KV
end Go.Proofs
end
