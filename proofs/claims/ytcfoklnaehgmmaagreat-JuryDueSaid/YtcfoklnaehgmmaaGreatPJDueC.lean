/- Parts of the proof of JDue: laws of walks, contracts of functions, plain models. No condition. -/
import Derived.Shelf.SlSortCmp.WholeK
import Derived.Shelf.SlicesG.Cmp
import Derived.Ground.SlsfProg
import Derived.Ground.SlgcProg
import Derived.Ground.NamesProg
import Derived.Test.YtcfoklnaehgmmaaGreatProg
import Derived.Shelf.SlSortCmp.NoneTotal
import Derived.Lib.OwnBridge
import Derived.Shelf.Slices.Clone
import Derived.RangeFuncNested
import Derived.Maps.Keyed
import Derived.Maps.AppendAt
import Derived.OrdersHeld
import Derived.Great.BuildSlice
import Derived.Lib.Small
import Derived.Below
import Derived.RangeFuncLeaves
import Derived.Shelf.Abstract
import Derived.OwnWalkIn
import Derived.TacticsInMore
import Derived.LoopNIn
import Derived.LoopIn
import Derived.OrdersIn
import Derived.Deep.WholeRow
import Derived.Test.YtcfoklnaehgmmaaGreatPJDueB
set_option linter.unusedVariables false
set_option linter.unusedSimpArgs false
set_option maxRecDepth 100000
namespace Go.Proofs
namespace KV
open Tryz
section
variable {r0 Ej:Bool}{n x hi lo x0 x1 x2 x3 Ah Aa Ab Ac Ad:Int}{W l Fc:Lqq}{o w:List Int}{i i' Aw base:Nat}

noncomputable abbrev kF:Code:=sub (cd Tryz.f289) [1,0,1,0,0]
noncomputable abbrev wJ:Code:=sub (cd Tryz.f163) [1,0,1,0,0]
noncomputable abbrev aBh:Code:=sub (cd Tryz.f31) [1,1,1,0,1,0,0]
theorem aOn:((0:Int) != 0)=false:=by first | decide | simp
theorem bPt(h0:lo≤n)(Ak:r0=(decide (n≤hi))):FV Tp 188 [(pI n),(pI lo),(pI hi)] base (pB r0) []:=by
 subst Ak;exact FV.fi func188 [bT,bT,bT,bT] (A3 (aWq h0) gn)
theorem bPu(h0:n<lo):FV Tp 188 [(pI n),(pI lo),(pI hi)] base (pB false) []:=FV.fi func188 [bF,bF,bF,bF] (A3 (pZ h0) gn)
theorem tN(n lo hi:Int){base:Nat}:FV Tp 188 [.p (aA n),.p (aA lo),.p (aA hi)] base (pB (within n lo hi)) []:=by
 by_cases h:lo≤n
 ·exact bPt h (by simp [within,h])
 ·have e:within n lo hi=false:=by simp [within,h]
  rw [e];exact bPu (show n<lo by omega)
theorem bPv(Ak:r0=(within x 0 5)):FV Tp 190 [(pI x)] base (pB r0) []:=by
 subst Ak;have k1:=fk 0 (tN x 0 5) rfl;exact FV.fi func190 [k1.o] (gc k1 gn)
def wK(x:Int):Bool:=within x 0 5
theorem bPw(x:Int){base:Nat}:FV Tp 190 [.p (aA x)] base (pB (wK x)) []:=bPv rfl
theorem bJg(Ak:r0=(!(wK x))):FMM Tp 220 [(pI x),(.ptr 0 0)] [some (.box 44 [(.fn 190 [] [])])] (pB r0) [some (.box 44 [(.fn 190 [] [])])]:=by
 subst Ak;exact FMM.fi 1 gE func220 [.c (pB (wK x)) []] (gc (fk 1 (bPw x) rfl) gn)
theorem aTd(x:Int):FMM Tp 220 [(pI x),.ptr 0 0] [some (.box 44 [(.fn 190 [] [])])] (pB (!(wK x))) [some (.box 44 [(.fn 190 [] [])])]:=bJg rfl
def fP(l:List Int)(i:Nat):St:=⟨fr 19 [(0,(.p (aG l))),(1,(.fn 220 [] [(.ptr 0 0)])),(7,(pI (l.length:Int))),(8,(pI (i:Int)))],[some (.box 44 [(.fn 190 [] [])])]⟩
theorem bJh{l:List Int}(hl0:aF Tp 1 wJ (fP l 0) (.exit 0) (fP l Aw)):FMM Tp 163 [(.p (aG l)),(.fn 220 [] [(.ptr 0 0)])] [some (.box 44 [(.fn 190 [] [])])] (pI (-1)) [some (.box 44 [(.fn 190 [] [])])]:=FMM.fi 1 gE func163 [hl0.k 6 (gZ cx)] (gc hl0.code gn)
theorem bJi{l:List Int}(hl0:aF Tp 1 wJ (fP l 0) .ret (cC (fP l Aw) [(4,(pI (Aw:Int)))])):FMM Tp 163 [(.p (aG l)),(.fn 220 [] [(.ptr 0 0)])] [some (.box 44 [(.fn 190 [] [])])] (pI (Aw:Int)) [some (.box 44 [(.fn 190 [] [])])]:=FMM.fi 1 gE func163 [hl0.k 6 (gZ cx)] (gc hl0.code gn)
section
variable{l:List Int}(h0:(i:Int)<(l.length:Int))(h1:l[i]? = some Ah)
include h0 h1
theorem aOo(h2:(wK Ah)=false):aC Tp 1 wJ (fP l i) .ret (cC (fP l i) [(4,(pI (i:Int)))]):=have k1:=mq [0] 1 (aTd Ah);aC.fi (gZ cr) [bT,.x (aA Ah),k1.o,bT] (gc (bZ h2) (gc k1 (gc (atm aA h1) (gc (ixn aA h1) (g0 h0)))))
theorem aOp(h2:(wK Ah)=true)(h3:da i)(Ai:i'=(i+1)):aC Tp 1 wJ (fP l i) .normal (fP l i'):=by
 subst Ai;have k1:=mq [0] 1 (aTd Ah);exact aC.fi (gZ cx) [bT,.x (aA Ah),k1.o,bF] (gc h3 (gc (aV h2) (gc k1 (gc (atm aA h1) (gc (ixn aA h1) (g0 h0))))))
end
theorem aOq{l:List Int}(h0:(l.length:Int)≤(i:Int)):aC Tp 1 wJ (fP l i) (.exit 0) (fP l i):=aC.fi (gZ cx) [bF] (gc (bA h0) gn)
theorem bJj(l:List Int)(hl:l.length≤1000):FMM Tp 163 [.p (aG l),(.fn 220 [] [(.ptr 0 0)])] [some (.box 44 [(.fn 190 [] [])])] (pI (bI (fun x => !(wK x)) l)) [some (.box 44 [(.fn 190 [] [])])]:=by
 rcases aF.find (P:=Tp) (k:=1) (b:=wJ) (fun i=>fP l i) (fun i _=>cC (fP l i) [(4,.p (aA (i:Int)))]) (fP l l.length) .ret (.exit 0) (by simp) (by simp) (fun x => !(wK x)) l
  (fun i x hx hp=>by exact aOp (by have:=aX hx;omega) hx (by simpa using hp) (aM (by have:=aX hx;omega)) rfl)
  (fun i x hx hp=>by exact aOo (by have:=aX hx;omega) hx (by simpa using hp))
  (aOq (l:=l) (i:=l.length) (by omega)) with ⟨i,x,h1,h2,h3,h4⟩ | ⟨h1,h2,h3⟩
 ·rw [eZ h2];exact bJi h4
 ·rw [fA h1];exact bJh h3
theorem bJk{l:List Int}(h0:l.length≤1000)(Ak:r0=(decide ((bI (fun x => !(wK x)) l) ≥ 0))):FMM Tp 93 [(.p (aG l)),(.fn 220 [] [(.ptr 0 0)])] [some (.box 44 [(.fn 190 [] [])])] (pB r0) [some (.box 44 [(.fn 190 [] [])])]:=by
 subst Ak;have k1:=mq [0] 1 (bJj l h0);exact FMM.fi 1 gE func93 [k1.o] (gc k1 gn)
theorem bJl(l:List Int)(hl:l.length≤1000):FMM Tp 93 [.p (aG l),(.fn 220 [] [(.ptr 0 0)])] [some (.box 44 [(.fn 190 [] [])])] (pB (l.any (fun x => !(wK x)))) [some (.box 44 [(.fn 190 [] [])])]:=bJk hl (iU _ _).symm
theorem bPx{l:List Int}(h0:l.length≤1000)(Ak:r0=(!(l.any (fun x => !(wK x))))):FV Tp 189 [(.p (aG l)),(.fn 190 [] [])] base (pB r0) []:=by
 subst Ak;have k1:=mq [0] 1 (bJl l h0);exact FV.fi func189 [k1.o] (gc k1 gn)
theorem bPy(l:List Int)(hl:l.length≤1000){base:Nat}:FV Tp 189 [.p (aG l),(.fn 190 [] [])] base (pB (l.all (wK))) []:=bPx hl (by rw [List.all_eq_not_any_not])
theorem bPz(h0:(within x0 0 x1)=true)(Ak:r0=(decide (x1<n))):FV Tp 222 [(.p (.agg [(aA x0),(aA x1),(aA x2),(aA x3)])),(.rp [(aA n)] 0)] base (pB r0) []:=by
 subst Ak;have k1:=fk 1 (tN x0 0 x1) rfl;exact FV.fi func222 [k1.o,bT,bT,bT,.x (aA n),bT,bT] (Bc h0 (gr (aA n) (Ar h0 (gc k1 gn))))
theorem bQa(h0:(within x0 0 x1)=false):FV Tp 222 [(.p (.agg [(aA x0),(aA x1),(aA x2),(aA x3)])),(.rp [(aA n)] 0)] base (pB false) []:=have k1:=fk 1 (tN x0 0 x1) rfl;FV.fi func222 ([k1.o]++rF 5) (Cn h0 (gc k1 gn))
theorem bQb(h0:(within x2 0 x3)=true)(Ak:r0=(decide (x3≤72))):FV Tp 223 [(.p (.agg [(aA x0),(aA x1),(aA x2),(aA x3)]))] base (pB r0) []:=by
 subst Ak;have k1:=fk 1 (tN x2 0 x3) rfl;exact FV.fi func223 ([k1.o]++rT 5) (Cn h0 (gc k1 gn))
theorem bQc(h0:(within x2 0 x3)=false):FV Tp 223 [(.p (.agg [(aA x0),(aA x1),(aA x2),(aA x3)]))] base (pB false) []:=have k1:=fk 1 (tN x2 0 x3) rfl;FV.fi func223 ([k1.o]++rF 5) (Cn h0 (gc k1 gn))
def wL(n:Int)(x:List Int):Bool:=within (x.getD 0 0) 0 (x.getD 1 0) && decide (x.getD 1 0<n)
def wM(x:List Int):Bool:=within (x.getD 2 0) 0 (x.getD 3 0) && decide (x.getD 3 0≤72)
theorem bQd(x0 x1 x2 x3 n:Int){base:Nat}:FV Tp 222 [.p (.agg [aA x0,aA x1,aA x2,aA x3]),.rp [aA n] 0] base (pB (wL n [x0,x1,x2,x3])) []:=by
 cases h:within x0 0 x1 with
 | true=>exact bPz h (show (within x0 0 x1 && _)=_ by rw [h];rfl)
 | false=>rw [show wL n [x0,x1,x2,x3]=false from show (within x0 0 x1 && _)=_ by rw [h];rfl];exact bQa h
theorem bQe(x0 x1 x2 x3:Int){base:Nat}:FV Tp 223 [.p (.agg [aA x0,aA x1,aA x2,aA x3])] base (pB (wM [x0,x1,x2,x3])) []:=by
 cases h:within x2 0 x3 with
 | true=>exact bQb h (show (within x2 0 x3 && _)=_ by rw [h];rfl)
 | false=>rw [show wM [x0,x1,x2,x3]=false from show (within x2 0 x3 && _)=_ by rw [h];rfl];exact bQc h
theorem bJm(Ak:r0=(!(wL n [x0,x1,x2,x3]))):FMM Tp 269 [(.p (.agg [(aA x0),(aA x1),(aA x2),(aA x3)])),(.ptr 0 0)] [some (.box 279 [(.fn 222 [] [(.rp [(aA n)] 0)])])] (pB r0) [some (.box 279 [(.fn 222 [] [(.rp [(aA n)] 0)])])]:=by
 subst Ak;have k1:=fk 2 (bQd x0 x1 x2 x3 n) rfl;exact FMM.fi 1 gE func269 [k1.o] (gc k1 gn)
theorem aTe(x0 x1 x2 x3 n:Int):FMM Tp 269 [(.p (.agg [(aA x0),(aA x1),(aA x2),(aA x3)])),.ptr 0 0] [some (.box 279 [(.fn 222 [] [(.rp [(aA n)] 0)])])] (pB (!(wL n [x0,x1,x2,x3]))) [some (.box 279 [(.fn 222 [] [(.rp [(aA n)] 0)])])]:=bJm rfl
def fQ(l:Lqq)(n:Int)(i:Nat):St:=⟨fr 19 [(0,(.p (fS l))),(1,(.fn 269 [] [(.ptr 0 0)])),(7,(pI (l.length:Int))),(8,(pI (i:Int)))],[some (.box 279 [(.fn 222 [] [(.rp [(aA n)] 0)])])]⟩
theorem bJn(hl0:aF Tp 1 kF (fQ l n 0) (.exit 0) (fQ l n Aw)):FMM Tp 289 [(.p (fS l)),(.fn 269 [] [(.ptr 0 0)])] [some (.box 279 [(.fn 222 [] [(.rp [(aA n)] 0)])])] (pI (-1)) [some (.box 279 [(.fn 222 [] [(.rp [(aA n)] 0)])])]:=FMM.fi 1 gE func289 [hl0.k 6 (gZ cx)] (gc hl0.code gn)
theorem bJo(hl0:aF Tp 1 kF (fQ l n 0) .ret (cC (fQ l n Aw) [(4,(pI (Aw:Int)))])):FMM Tp 289 [(.p (fS l)),(.fn 269 [] [(.ptr 0 0)])] [some (.box 279 [(.fn 222 [] [(.rp [(aA n)] 0)])])] (pI (Aw:Int)) [some (.box 279 [(.fn 222 [] [(.rp [(aA n)] 0)])])]:=FMM.fi 1 gE func289 [hl0.k 6 (gZ cx)] (gc hl0.code gn)
section
variable(h0:(i:Int)<(l.length:Int))(h1:l[i]? = some [Aa,Ab,Ac,Ad])(h2:uni 4 l)
include h0 h1 h2
theorem aOr(h3:(wL n [Aa,Ab,Ac,Ad])=false):aC Tp 1 kF (fQ l n i) .ret (cC (fQ l n i) [(4,(pI (i:Int)))]):=have k1:=mq [0] 1 (aTe Aa Ab Ac Ad n);aC.fi (gZ cr) [bT,.x (.agg [(aA Aa),(aA Ab),(aA Ac),(aA Ad)]),k1.o,bT] (gc (bZ h3) (gc k1 (gfl h2 h1 (g0 h0))))
theorem aOs(h3:(wL n [Aa,Ab,Ac,Ad])=true)(h4:da i)(Ai:i'=(i+1)):aC Tp 1 kF (fQ l n i) .normal (fQ l n i'):=by
 subst Ai;have k1:=mq [0] 1 (aTe Aa Ab Ac Ad n);exact aC.fi (gZ cx) [bT,.x (.agg [(aA Aa),(aA Ab),(aA Ac),(aA Ad)]),k1.o,bF] (gc h4 (gc (aV h3) (gc k1 (gfl h2 h1 (g0 h0)))))
end
theorem aOt(h0:(l.length:Int)≤(i:Int)):aC Tp 1 kF (fQ l n i) (.exit 0) (fQ l n i):=aC.fi (gZ cx) [bF] (gc (bA h0) gn)
theorem bJp(l:Lqq)(n:Int)(hl:l.length≤1000)(hu:uni 4 l):FMM Tp 289 [.p (fS l),(.fn 269 [] [(.ptr 0 0)])] [some (.box 279 [(.fn 222 [] [(.rp [(aA n)] 0)])])] (pI (bI (fun x => !(wL n x)) l)) [some (.box 279 [(.fn 222 [] [(.rp [(aA n)] 0)])])]:=by
 rcases aF.find (P:=Tp) (k:=1) (b:=kF) (fun i=>fQ l n i) (fun i _=>cC (fQ l n i) [(4,.p (aA (i:Int)))]) (fQ l n l.length) .ret (.exit 0) (by simp) (by simp) (fun x => !(wL n x)) l
  (fun i x hx hp=>by obtain ⟨a,b,c,d,rfl⟩:=H8 (hu _ (Bf hx));exact aOs (by have:=aX hx;omega) hx hu (by simpa using hp) (aM (by have:=aX hx;omega)) rfl)
  (fun i x hx hp=>by obtain ⟨a,b,c,d,rfl⟩:=H8 (hu _ (Bf hx));exact aOr (by have:=aX hx;omega) hx hu (by simpa using hp))
  (aOt (l:=l) (i:=l.length) (by omega)) with ⟨i,x,h1,h2,h3,h4⟩ | ⟨h1,h2,h3⟩
 ·rw [eZ h2];exact bJo h4
 ·rw [fA h1];exact bJn h3
theorem bJq(h0:l.length≤1000)(h1:uni 4 l)(Ak:r0=(decide ((bI (fun x => !(wL n x)) l) ≥ 0))):FMM Tp 268 [(.p (fS l)),(.fn 269 [] [(.ptr 0 0)])] [some (.box 279 [(.fn 222 [] [(.rp [(aA n)] 0)])])] (pB r0) [some (.box 279 [(.fn 222 [] [(.rp [(aA n)] 0)])])]:=by
 subst Ak;have k1:=mq [0] 1 (bJp l n h0 h1);exact FMM.fi 1 gE func268 [k1.o] (gc k1 gn)
theorem bJr(l:Lqq)(n:Int)(hl:l.length≤1000)(hu:uni 4 l):FMM Tp 268 [.p (fS l),(.fn 269 [] [(.ptr 0 0)])] [some (.box 279 [(.fn 222 [] [(.rp [(aA n)] 0)])])] (pB (l.any (fun x => !(wL n x)))) [some (.box 279 [(.fn 222 [] [(.rp [(aA n)] 0)])])]:=bJq hl hu (iU _ _).symm
theorem bQf(h0:l.length≤1000)(h1:uni 4 l)(Ak:r0=(!(l.any (fun x => !(wL n x))))):FV Tp 221 [(.p (fS l)),(.fn 222 [] [(.rp [(aA n)] 0)])] base (pB r0) []:=by
 subst Ak;have k1:=mq [0] 1 (bJr l n h0 h1);exact FV.fi func221 [k1.o] (gc k1 gn)
theorem bQg(l:Lqq)(n:Int)(hl:l.length≤1000)(hu:uni 4 l){base:Nat}:FV Tp 221 [.p (fS l),(.fn 222 [] [(.rp [(aA n)] 0)])] base (pB (l.all (wL n))) []:=bQf hl hu (by rw [List.all_eq_not_any_not])
theorem bJs(Ak:r0=(!(wM [x0,x1,x2,x3]))):FMM Tp 269 [(.p (.agg [(aA x0),(aA x1),(aA x2),(aA x3)])),(.ptr 0 0)] [some (.box 279 [(.fn 223 [] [])])] (pB r0) [some (.box 279 [(.fn 223 [] [])])]:=by
 subst Ak;have k1:=fk 2 (bQe x0 x1 x2 x3) rfl;exact FMM.fi 1 gE func269 [k1.o] (gc k1 gn)
theorem aTf(x0 x1 x2 x3:Int):FMM Tp 269 [(.p (.agg [(aA x0),(aA x1),(aA x2),(aA x3)])),.ptr 0 0] [some (.box 279 [(.fn 223 [] [])])] (pB (!(wM [x0,x1,x2,x3]))) [some (.box 279 [(.fn 223 [] [])])]:=bJs rfl
def fR(l:Lqq)(i:Nat):St:=⟨fr 19 [(0,(.p (fS l))),(1,(.fn 269 [] [(.ptr 0 0)])),(7,(pI (l.length:Int))),(8,(pI (i:Int)))],[some (.box 279 [(.fn 223 [] [])])]⟩
theorem bJt(hl0:aF Tp 1 kF (fR l 0) (.exit 0) (fR l Aw)):FMM Tp 289 [(.p (fS l)),(.fn 269 [] [(.ptr 0 0)])] [some (.box 279 [(.fn 223 [] [])])] (pI (-1)) [some (.box 279 [(.fn 223 [] [])])]:=FMM.fi 1 gE func289 [hl0.k 6 (gZ cx)] (gc hl0.code gn)
theorem bJu(hl0:aF Tp 1 kF (fR l 0) .ret (cC (fR l Aw) [(4,(pI (Aw:Int)))])):FMM Tp 289 [(.p (fS l)),(.fn 269 [] [(.ptr 0 0)])] [some (.box 279 [(.fn 223 [] [])])] (pI (Aw:Int)) [some (.box 279 [(.fn 223 [] [])])]:=FMM.fi 1 gE func289 [hl0.k 6 (gZ cx)] (gc hl0.code gn)
section
variable(h0:(i:Int)<(l.length:Int))(h1:l[i]? = some [Aa,Ab,Ac,Ad])(h2:uni 4 l)
include h0 h1 h2
theorem aOu(h3:(wM [Aa,Ab,Ac,Ad])=false):aC Tp 1 kF (fR l i) .ret (cC (fR l i) [(4,(pI (i:Int)))]):=have k1:=mq [0] 1 (aTf Aa Ab Ac Ad);aC.fi (gZ cr) [bT,.x (.agg [(aA Aa),(aA Ab),(aA Ac),(aA Ad)]),k1.o,bT] (gc (bZ h3) (gc k1 (gfl h2 h1 (g0 h0))))
theorem aOv(h3:(wM [Aa,Ab,Ac,Ad])=true)(h4:da i)(Ai:i'=(i+1)):aC Tp 1 kF (fR l i) .normal (fR l i'):=by
 subst Ai;have k1:=mq [0] 1 (aTf Aa Ab Ac Ad);exact aC.fi (gZ cx) [bT,.x (.agg [(aA Aa),(aA Ab),(aA Ac),(aA Ad)]),k1.o,bF] (gc h4 (gc (aV h3) (gc k1 (gfl h2 h1 (g0 h0)))))
end
theorem aOw(h0:(l.length:Int)≤(i:Int)):aC Tp 1 kF (fR l i) (.exit 0) (fR l i):=aC.fi (gZ cx) [bF] (gc (bA h0) gn)
theorem bJv(l:Lqq)(hl:l.length≤1000)(hu:uni 4 l):FMM Tp 289 [.p (fS l),(.fn 269 [] [(.ptr 0 0)])] [some (.box 279 [(.fn 223 [] [])])] (pI (bI (fun x => !(wM x)) l)) [some (.box 279 [(.fn 223 [] [])])]:=by
 rcases aF.find (P:=Tp) (k:=1) (b:=kF) (fun i=>fR l i) (fun i _=>cC (fR l i) [(4,.p (aA (i:Int)))]) (fR l l.length) .ret (.exit 0) (by simp) (by simp) (fun x => !(wM x)) l
  (fun i x hx hp=>by obtain ⟨a,b,c,d,rfl⟩:=H8 (hu _ (Bf hx));exact aOv (by have:=aX hx;omega) hx hu (by simpa using hp) (aM (by have:=aX hx;omega)) rfl)
  (fun i x hx hp=>by obtain ⟨a,b,c,d,rfl⟩:=H8 (hu _ (Bf hx));exact aOu (by have:=aX hx;omega) hx hu (by simpa using hp))
  (aOw (l:=l) (i:=l.length) (by omega)) with ⟨i,x,h1,h2,h3,h4⟩ | ⟨h1,h2,h3⟩
 ·rw [eZ h2];exact bJu h4
 ·rw [fA h1];exact bJt h3
theorem bJw(h0:l.length≤1000)(h1:uni 4 l)(Ak:r0=(decide ((bI (fun x => !(wM x)) l) ≥ 0))):FMM Tp 268 [(.p (fS l)),(.fn 269 [] [(.ptr 0 0)])] [some (.box 279 [(.fn 223 [] [])])] (pB r0) [some (.box 279 [(.fn 223 [] [])])]:=by
 subst Ak;have k1:=mq [0] 1 (bJv l h0 h1);exact FMM.fi 1 gE func268 [k1.o] (gc k1 gn)
theorem bJx(l:Lqq)(hl:l.length≤1000)(hu:uni 4 l):FMM Tp 268 [.p (fS l),(.fn 269 [] [(.ptr 0 0)])] [some (.box 279 [(.fn 223 [] [])])] (pB (l.any (fun x => !(wM x)))) [some (.box 279 [(.fn 223 [] [])])]:=bJw hl hu (iU _ _).symm
theorem bQh(h0:l.length≤1000)(h1:uni 4 l)(Ak:r0=(!(l.any (fun x => !(wM x))))):FV Tp 221 [(.p (fS l)),(.fn 223 [] [])] base (pB r0) []:=by
 subst Ak;have k1:=mq [0] 1 (bJx l h0 h1);exact FV.fi func221 [k1.o] (gc k1 gn)
theorem bQi(l:Lqq)(hl:l.length≤1000)(hu:uni 4 l){base:Nat}:FV Tp 221 [.p (fS l),(.fn 223 [] [])] base (pB (l.all (wM))) []:=bQh hl hu (by rw [List.all_eq_not_any_not])
theorem bQj(h0:(within n 1 8)=true)(h1:(l.length:Int)≤20)(h2:l.length≤1000)(h3:uni 4 l)(h4:(l.all (wL n))=true)(h5:(l.all (wM))=true):FV Tp 191 [(pI n),(.p (fS l))] base (pI 0) []:=have k1:=fk 1 (tN n 1 8) rfl;have k2:=fk 0 (bQg l n h2 h3) rfl;have k3:=fk 0 (bQi l h2 h3) rfl;FV.fi func191 ([k1.o]++rF 5++[.g 1 ⟨[],[],[0],[]⟩,k2.o,bF,k3.o,bF]) (gc (aV h5) (gc k3 (gc (aV h4) (gc k2 (gc (bA h1) (A3 (aV h0) (gc k1 gn)))))))
def aHf(w:List Int)(l:Lqq):Prop:=(1≤w.length∧w.length≤8)∧(∀ x∈w,0≤x∧x≤5)∧l.length≤20∧∀ s∈l,bJy w.length s
theorem aHf.uni{w:List Int}{l:Lqq}(h:aHf w l):uni 4 l:=fun s hs=>by obtain ⟨a,b,c,d,rfl,_⟩:=h.2.2.2 s hs;rfl
theorem bQk{w:List Int}{l:Lqq}(h:aHf w l){base:Nat}:FV Tp 191 [.p (aA (w.length:Int)),.p (fS l)] base (pI 0) []:=by
 refine bQj (bO.2 (by have:=h.1;omega)) (by have:=h.2.2.1;omega) (by have:=h.2.2.1;omega) h.uni (fD.2 fun s hs => ?_) (fD.2 fun s hs => ?_)
 ·obtain ⟨a,b,c,d,rfl,q⟩:=h.2.2.2 s hs
  show (within a 0 b && decide (b<_))=true;rw [bO.2 (by omega),decide_eq_true (by omega)];rfl
 ·obtain ⟨a,b,c,d,rfl,q⟩:=h.2.2.2 s hs
  show (within c 0 d && decide (d≤72))=true;rw [bO.2 (by omega),decide_eq_true (by omega)];rfl
theorem bQl(h0:(within (w.length:Int) 1 8)=true)(h1:w.length≤1000)(h2:(w.all (wK))=true)(h3:aHf w l):FV Tp 141 [(.p (aG w)),(.p (fS l))] base (pI 0) []:=have k1:=fk 0 (tN (w.length:Int) 1 8) rfl;have k2:=fk 0 (bPy w h1) rfl;FV.fi func141 [k1.o,bF,k2.o,bF,.c (pI 0) []] (gc (fk 0 (bQk h3) rfl) (gc (aV h2) (gc k2 (gc (aV h0) (gc k1 gn)))))
theorem bQm{w:List Int}{l:Lqq}(h:aHf w l){base:Nat}:FV Tp 141 [.p (aG w),.p (fS l)] base (pI 0) [] :=
 bQl (bO.2 (by have:=h.1;omega)) (by have:=h.1;omega) (fD.2 fun x hx=>bO.2 (h.2.1 x hx)) h
theorem bQn{L0:List Lk}{c1:List Int}{Oc:Bool}(h0:aHf w l)(h1:∀ base,FV Tp 143 [(pI (w.length:Int)),(.p (fS l)),(.p (aG w))] base (.own base) [(base,.row 263 L0.length ((L0.map lnE).flatten))])(h2:∀ base,FV Tp 142 [(pI (w.length:Int)),(.p (.sl L0.length ((L0.map lnE).flatten)))] base (.tup [(.p (.agg (c1.map aA))),(pB Oc)]) [])(h3:(c1.map aA).length=81)(Ak:r0=(!Oc)):FV Tp 77 [(.p (aG w)),(.p (fS l))] base (.tup [(pB r0),(pI 0)]) []:=by
 subst Ak;exact FV.fi func77 [.c (pI 0) [],bF,.c (.own 0) [(0,(.row 263 L0.length ((L0.map lnE).flatten)))],.c (.tup [(.p (.agg (c1.map aA))),(pB Oc)]) [(0,.dead)]] (gt ((c1.map aA).length=81∧0+81≤[(aA 0),(aA 0),(aA 0),(aA 0),(aA 0),(aA 0),(aA 0),(aA 0),(aA 0),(aA 0),(aA 0),(aA 0),(aA 0),(aA 0),(aA 0),(aA 0),(aA 0),(aA 0),(aA 0),(aA 0),(aA 0),(aA 0),(aA 0),(aA 0),(aA 0),(aA 0),(aA 0),(aA 0),(aA 0),(aA 0),(aA 0),(aA 0),(aA 0),(aA 0),(aA 0),(aA 0),(aA 0),(aA 0),(aA 0),(aA 0),(aA 0),(aA 0),(aA 0),(aA 0),(aA 0),(aA 0),(aA 0),(aA 0),(aA 0),(aA 0),(aA 0),(aA 0),(aA 0),(aA 0),(aA 0),(aA 0),(aA 0),(aA 0),(aA 0),(aA 0),(aA 0),(aA 0),(aA 0),(aA 0),(aA 0),(aA 0),(aA 0),(aA 0),(aA 0),(aA 0),(aA 0),(aA 0),(aA 0),(aA 0),(aA 0),(aA 0),(aA 0),(aA 0),(aA 0),(aA 0),(aA 0)].length) ⟨h3,by first | decide | simp⟩ (gt (FC Tp 142 [(pI (w.length:Int)),(.own 0)] [(0,(.row 263 L0.length ((L0.map lnE).flatten)))] 1 (.tup [(.p (.agg (c1.map aA))),(pB Oc)]) [(0,.dead)]) (FV.close (ids:=[0]) (Am:=[(pI (w.length:Int)),(.p (.sl L0.length ((L0.map lnE).flatten)))]) (h2 _) (by kernel_rfl)) (gc (fk 0 (h1 _) rfl) (gc aOn (gc (fk 0 (bQm h0) rfl) gn)))))
theorem bQo{w:List Int}{l:Lqq}(h:aHf w l):∃ b:Bool,∀ base,FV Tp 77 [.p (aG w),.p (fS l)] base (.tup [.p (blP b),.p (aA 0)]) []:=by
 obtain ⟨L,hL,hl,h1⟩:=bEn h.1.2 h.2.2.1 h.2.2.2 h.2.1 (cP _);obtain ⟨c,ok,E3,h2⟩:=bQs h.1.2 hL hl;exact ⟨!ok,fun base=>bQn h h1 h2 (by rw [A8];exact E3) rfl⟩
def shE(s:Lqq):List PV:=[.sl s.length (s.flatten.map aA)]
def mG(W:Lqq)(X:List (Lqq))(i on:Nat)(oc:List PV):St:=⟨fr 47 [(0,(.p (aKu W))),(1,(.p (.sl X.length ((X.map shE).flatten)))),(6,(.own 0)),(21,(pI (W.length:Int))),(22,(pI (i:Int)))],[some (.row 3 on oc)]⟩
theorem bQp{X:List (Lqq)}{Gk:List Int}(h0:(W.length:Int)≤8)(h1:(X.length:Int)=(W.length:Int))(Bu:aF Tp 0 aBh (mG W X 0 0 []) (.exit 0) (mG W X Aw Gk.length (Gk.map aA))):FV Tp 31 [(.p (aKu W)),(.p (.sl X.length ((X.map shE).flatten)))] base (.tup [(.own base),(pI 0)]) [(base,(.row 3 Gk.length (Gk.map aA)))]:=FV.fi func31 (rF 7++[Bu.k 6 (gN c9 [0] [(6,3)])]) (gc Bu.code (gc (iI h1) (Jm (bA h0) gn)))
section
variable{X:List (Lqq)}{Ah:List Int}(h0:(i:Int)<(W.length:Int))(h1:W[i]? = some Ah)(h2:X[i]? = some (Fc))(h3:∀ base,FV Tp 77 [(.p (aG Ah)),(.p (fS Fc))] base (.tup [(pB Ej),(pI 0)]) [])
include h0 h1 h2 h3
theorem aXe{o':List Int}(h4:Ej=true)(h5:[(aA (i:Int))].length=1*1∧o.length+1≤1000000)(h6:da i)(Ai:i'=(i+1))(Cs:o'.length=(o.length+1))(Ct:o'.map aA=((o.map aA)++[(aA (i:Int))])):aC Tp 0 aBh (mG W X i o.length (o.map aA)) .normal (mG W X i' o'.length (o'.map aA)):=by
 subst Ai;rw [Cs,Ct];exact aC.fi (gI c9 [2]) [bT,.x (aG Ah),.x (fS Fc),.c (.tup [(pB Ej),(pI 0)]) [],bF,bT] (gc h6 (gc h5 (gc h4 (gc aOn (gc (fk 1 (h3 _) rfl) (gt (((X.map shE).flatten)[(i*1)]? = some (fS Fc)) (wO (E:=shE) (i:=i) (f:=0) (k:=1) (fun _=>rfl) h2 rfl) (gc (lD (E:=shE) (k:=1) (i:=(i:Int)) (fun _=>rfl) (by decide) (hZ _) h2) (gc (atm aG h1) (gc (ixn aG h1) (g0 h0))))))))))
theorem aXf(h4:Ej=false)(h5:da i)(Ai:i'=(i+1)):aC Tp 0 aBh (mG W X i o.length (o.map aA)) .normal (mG W X i' o.length (o.map aA)):=by
 subst Ai;exact aC.fi (gI c9 [0]) [bT,.x (aG Ah),.x (fS Fc),.c (.tup [(pB Ej),(pI 0)]) [],bF,bF] (gc h5 (gc h4 (gc aOn (gc (fk 1 (h3 _) rfl) (gt (((X.map shE).flatten)[(i*1)]? = some (fS Fc)) (wO (E:=shE) (i:=i) (f:=0) (k:=1) (fun _=>rfl) h2 rfl) (gc (lD (E:=shE) (k:=1) (i:=(i:Int)) (fun _=>rfl) (by decide) (hZ _) h2) (gc (atm aG h1) (gc (ixn aG h1) (g0 h0)))))))))
end
theorem aXg{X:List (Lqq)}(h0:(W.length:Int)≤(i:Int)):aC Tp 0 aBh (mG W X i o.length (o.map aA)) (.exit 0) (mG W X i o.length (o.map aA)):=aC.fi (gI c9 [0]) [bF] (gc (bA h0) gn)
theorem bQq{W:Lqq}{X:List (Lqq)}(hW:W.length≤8)(hX:X.length=W.length)(h:∀ (i:Nat) (w:List Int) (s:Lqq),W[i]? = some w→X[i]? = some s→aHf w s) :
  ∃ o:List Int,(o.Pairwise fun a b=>a<b)∧(∀ x∈o,0≤x∧x<(W.length:Int))∧o.length≤W.length∧∀ base,FV Tp 31 [.p (aKu W),.p (.sl X.length ((X.map shE).flatten))] base (.tup [.own base,.p (aA 0)]) [(base,.row 3 o.length (o.map aA))]:=by
 obtain ⟨o,⟨h1,h2,h3⟩,hL⟩:=aF.some (P:=Tp) (k:=0) (b:=aBh) (e := .exit 0) (fun i (o:List Int)=>mG W X i o.length (o.map aA)) (fun i o=>(o.Pairwise fun a b=>a<b)∧(∀ x∈o,0≤x∧x<(i:Int))∧o.length≤i) (fun o=>mG W X W.length o.length (o.map aA)) (by simp) W.length (a0:=[]) ⟨.nil,fun _ h=>absurd h List.not_mem_nil,cP _⟩
  (fun i o hi ⟨h1,h2,h3⟩=>by
   have hw:=Ap hi;have hx:X[i]? = some X[i]:=Ap (by omega)
   obtain ⟨b,hb⟩:=bQo (h i _ _ hw hx);cases b with
   | true =>
    refine ⟨o++[(i:Int)],⟨?_,fun x hx => ?_,by rw [fK];show _+1≤_;omega⟩,aXe (by omega) hw hx hb rfl ⟨rfl,by omega⟩ (aM (by omega)) rfl (by simp) (by rw [eE];rfl)⟩
    ·rw [List.pairwise_append]
     refine ⟨h1,List.pairwise_singleton _ _,fun a ha b hb => ?_⟩
     rw [List.mem_singleton.1 hb];exact (h2 a ha).2
    ·rcases eU.1 hx with hx | hx
     ·have:=h2 x hx;omega
     ·rw [List.mem_singleton.1 hx];omega
   | false=>exact ⟨o,⟨h1,fun x hx=>by have:=h2 x hx;omega,by omega⟩,aXf (by omega) hw hx hb rfl (aM (by omega)) rfl⟩)
  (fun o _=>aXg (by omega))
 exact ⟨o,h1,h2,h3,fun base=>bQp (by omega) (by omega) hL⟩
end
end KV
end Go.Proofs
section
namespace Go.Proofs
open Go.RowKit Go.Lib Go.Sort
namespace KV
open Tryz

theorem aPq{P:Program}{C:Cx}{w w':World}{ty n b:Nat}{cs A9:List PV}{arr Dz:Array Value}(hM:aO P C [some (.row ty n cs)] w)(hι:C.ι 0=some b)(hb:w.heap[b]? = some (.cells arr ty (0,0)))
  (hos:w'.os=w.os) (htp:w'.tape=w.tape) (hou:w'.output=w.output) (hsz:w.heap.size≤w'.heap.size) (hot:∀ b',b'<w.heap.size→b'≠b→w'.heap[b']? = w.heap[b']?)
  (Aj:w'.heap[b]? = some (.cells Dz ty (0,0))) (hsa:Dz.size=arr.size) (hl:A9.length=cs.length) (hr:∀ j (h:j<A9.length),bW C.F w' A9[j] (Dz.getD j undef)) (ho:∀ j,j<A9.length→(Dz.getD j undef).oneCell'=true) :
  Fr C [some (.row ty n cs)] w C [some (.row ty n A9)] w'∧aO P C [some (.row ty n A9)] w':=by
 have Hz:∀ (id:Nat) (o:AO),([some (.row ty n cs)]:Mem)[id]? = some (some o)→id=0∧o = .row ty n cs:=fun id o h=>by
  cases id with
  | zero=>simp at h;exact ⟨rfl,h.symm⟩
  | succ i=>simp at h
 have Cd:∀ (id:Nat) (o:AO),([some (.row ty n A9)]:Mem)[id]? = some (some o)→id=0∧o = .row ty n A9:=fun id o h=>by
  cases id with
  | zero=>simp at h;exact ⟨rfl,h.symm⟩
  | succ i=>simp at h
 refine ⟨⟨hos,htp,hou,hsz,fun b' h1 h2=>hot b' h1 fun he => ?_,fun id o hm => ?_,fun id o hm Cb n' Dv hx => ?_,fun id o hm o' hx hl => ?_,fun id o b' hm hl hbb => ?_,fun _ h=>h,fun _ h => .inl h⟩,
  ⟨fun id Cb n' Dv hm => ?_,fun id Cb Dv hm => ?_,fun id es cl hm => ?_,fun id Ep o o' b' h1 _ h2 _ _ _ => ?_,fun id o b' hm hl hbb => ?_,fun b' hf=>B5 (hM.Fs b' hf) hsz,fun id o b' hm hl hbb => ?_⟩⟩
 ·subst he;exact h2 0 _ rfl rfl hι
 ·obtain ⟨rfl,rfl⟩:=Hz id o hm
  exact ⟨⟨_,rfl⟩,rfl,rfl⟩
 ·obtain ⟨rfl,rfl⟩:=Hz id o hm
  obtain ⟨_,he⟩:=Cd _ _ hx;cases he;exact ⟨cs,rfl⟩
 ·obtain ⟨rfl,rfl⟩:=Hz id o hm
  rfl
 ·obtain ⟨rfl,rfl⟩:=Cd id o hm
  exact .inr ⟨0,_,rfl,rfl,hbb⟩
 ·obtain ⟨rfl,he⟩:=Cd id _ hm
  cases he
  rcases hM.row 0 _ _ _ rfl with ⟨hn,_⟩ | ⟨b',Tn,i,q1,q2,q3,q4,q5,q6,q7,q8⟩
  ·rw [hι] at hn;cases hn
  ·rw [hι] at q1;cases q1
   rw [hb] at q2;cases q2
   exact .inr ⟨b,Dz,i,hι,Aj,q3,by rw [hsa,q4],by rw [hl,q5],q6,q7,hr,ho⟩
 ·obtain ⟨_,he⟩:=Cd id _ hm;cases he
 ·obtain ⟨_,he⟩:=Cd id _ hm;cases he
 ·obtain ⟨rfl,_⟩:=Cd id _ h1
  obtain ⟨rfl,_⟩:=Cd Ep _ h2;rfl
 ·obtain ⟨rfl,_⟩:=Cd id _ hm
  exact hM.nF 0 _ b' rfl rfl hbb
 ·obtain ⟨rfl,_⟩:=Cd id _ hm
  exact B5 (hM.lt 0 _ b' rfl rfl hbb) hsz

def lI(k:Nat)(x:List Int):List Value:=(List.range k).map fun i => .int .i64 (x.getD i 0)
theorem aBs(k:Nat)(x:List Int):(lI k x).length=k:=by simp [lI]
theorem aBt(k:Nat)(x:List Int):∀ v∈lI k x,v.oneCell'=true:=fun v hv=>by
 obtain ⟨i,_,rfl⟩:=dH.1 hv;rfl
def cfL(x y:List Int):Int:=compareInt (x.getD 0 0) (y.getD 0 0)
theorem ltL(x y:List Int):ltOf cfL x y=decide (x.getD 0 0<y.getD 0 0):=by
 unfold ltOf cfL compareInt;generalize x.getD 0 0=a;generalize y.getD 0 0=b
 by_cases h1:a<b
 ·simp [h1]
 ·by_cases h2:b<a <;> simp [h1,h2]
theorem bXn:SWO (ltOf cfL) where
 irrefl x:=by rw [ltL];simp
 trans x y z h1 h2:=by rw [ltL] at *;simp only [decide_eq_true_eq] at *;omega
 ntrans x y z h1 h2:=by rw [ltL] at *;simp only [decide_eq_false_iff_not] at *;omega
def aB(l:Lqq):Lqq:=l.mergeSort fun a b=>decide (a.getD 0 0≤b.getD 0 0)
theorem dC(l:Lqq):(aB l).Perm l:=List.mergeSort_perm _ _
theorem kR(l:Lqq):(aB l).Pairwise fun a b=>a.getD 0 0≤b.getD 0 0:=by
 have:=List.pairwise_mergeSort (le:=fun a b:List Int=>decide (a.getD 0 0≤b.getD 0 0)) (fun a b c h1 h2=>by simp only [decide_eq_true_eq] at *;omega) (fun a b=>by simp only [aKt,decide_eq_true_eq];omega) l
 exact this.imp fun h=>of_decide_eq_true h
theorem aTq{l:Lqq}(hn:(aL l 0).Nodup){a b:List Int}(ha:a∈l)(hb:b∈l)(h:a.getD 0 0=b.getD 0 0):a=b:=by
 induction l with
 | nil=>cases ha
 | cons x l ih =>
  unfold aL at hn ih
  rw [gT,List.nodup_cons] at hn
  rcases gG.1 ha with rfl | I8 <;> rcases gG.1 hb with rfl | Aj
  ·rfl
  ·exact absurd (dH.2 ⟨b,Aj,h.symm⟩) hn.1
  ·exact absurd (dH.2 ⟨a,I8,h⟩) hn.1
  ·exact ih hn.2 I8 Aj
theorem aBu{l l':Lqq}(hn:(aL l 0).Nodup)(hp:l'.Perm l)(hs:l'.Pairwise fun a b=>a.getD 0 0≤b.getD 0 0):l'=aB l :=
 List.Perm.eq_of_pairwise (le:=fun a b=>a.getD 0 0≤b.getD 0 0) (fun a b ha hb h1 h2=>aTq hn (hp.mem_iff.1 ha) ((dC l).mem_iff.1 hb) (by omega)) hs (kR l) (hp.trans (dC l).symm)
theorem bFb{k:Nat}{l l':Lqq}(hp:l'.Perm l)(hu:uni k l):uni k l':=fun x hx=>hu x (hp.mem_iff.1 hx)
theorem kW{k:Nat}{l:Lqq}(hu:uni k l):uni k (aB l):=bFb (dC l) hu
theorem fB(l:Lqq):(aB l).length=l.length:=(dC l).length_eq
end KV
end Go.Proofs
end
section
namespace Go.Proofs
open Go.Shelf
def Tryz.sortSk_ren:Go.Shelf.Ren:=⟨fun | 6=>153 | 15=>195 | 14=>207 | 28=>231 | 29=>232 | 20=>239 | 21=>240 | 22=>241 | 23=>242 | 24=>243 | 25=>244 | 26=>245 | 27=>246 | 46=>278 | 47=>271 | 48=>272 | 49=>279 | 50=>280 | 57=>292 | n=>n,fun | 22=>23 | 24=>80 | 25=>225 | 3=>3 | 39=>266 | 0=>0 | 53=>94 | 55=>288 | 4=>4 | 46=>281 | 45=>280 | 50=>179 | 5=>5 | 9=>9 | 66=>307 | 70=>311 | 76=>322 | 77=>236 | n=>n,fun | n=>n⟩
theorem Tryz.sortSk:Go.Proofs.SlLaysF0.n6 Tryz.prog Tryz.sortSk_ren:={
 mixed:=by kernel_rfl
 f6:=⟨Tryz.f153.name,by decide,func153.trans (congrArg some (by kernel_rfl))⟩
 f14:=⟨Tryz.f207.name,by decide,func207.trans (congrArg some (by kernel_rfl))⟩
 f15:=func195.trans (congrArg some (by kernel_rfl))
 f20:=⟨Tryz.f239.name,by decide,func239.trans (congrArg some (by kernel_rfl))⟩
 f21:=⟨Tryz.f240.name,by decide,func240.trans (congrArg some (by kernel_rfl))⟩
 f22:=⟨Tryz.f241.name,by decide,func241.trans (congrArg some (by kernel_rfl))⟩
 f23:=⟨Tryz.f242.name,by decide,func242.trans (congrArg some (by kernel_rfl))⟩
 f24:=⟨Tryz.f243.name,by decide,func243.trans (congrArg some (by kernel_rfl))⟩
 f25:=⟨Tryz.f244.name,by decide,func244.trans (congrArg some (by kernel_rfl))⟩
 f26:=⟨Tryz.f245.name,by decide,func245.trans (congrArg some (by kernel_rfl))⟩
 f27:=⟨Tryz.f246.name,by decide,func246.trans (congrArg some (by kernel_rfl))⟩
 f28:=func231.trans (congrArg some (by kernel_rfl))
 f29:=func232.trans (congrArg some (by kernel_rfl))
 f46:=⟨Tryz.f278.name,by decide,func278.trans (congrArg some (by kernel_rfl))⟩
 f47:=func271.trans (congrArg some (by kernel_rfl))
 f48:=func272.trans (congrArg some (by kernel_rfl))
 f49:=⟨Tryz.f279.name,by decide,func279.trans (congrArg some (by kernel_rfl))⟩
 f50:=⟨Tryz.f280.name,by decide,func280.trans (congrArg some (by kernel_rfl))⟩
 f57:=⟨Tryz.f292.name,by decide,func292.trans (congrArg some (by kernel_rfl))⟩
 t0:=Tryz.underlying0
 a0:=Tryz.isAgg0
 z0:=Tryz.sizeOf0
 v0:=Tryz.zeroValue0
 t3:=Tryz.underlying3
 a3:=Tryz.isAgg3
 z3:=Tryz.sizeOf3
 v3:=Tryz.zeroValue3
 t4:=Tryz.underlying4
 a4:=Tryz.isAgg4
 z4:=Tryz.sizeOf4
 v4:=Tryz.zeroValue4
 t5:=Tryz.underlying5
 a5:=Tryz.isAgg5
 z5:=Tryz.sizeOf5
 v5:=Tryz.zeroValue5
 t9:=Tryz.underlying9
 a9:=Tryz.isAgg9
 z9:=Tryz.sizeOf9
 v9:=Tryz.zeroValue9
 t22:=Tryz.underlying23
 a22:=Tryz.isAgg23
 z22:=Tryz.sizeOf23
 v22:=Tryz.zeroValue23
 t25:=Tryz.underlying225
 a25:=Tryz.isAgg225
 z25:=Tryz.sizeOf225
 v25:=Tryz.zeroValue225
 t39:=Tryz.underlying266
 a39:=Tryz.isAgg266
 z39:=Tryz.sizeOf266
 v39:=Tryz.zeroValue266
 t45:=Tryz.underlying280
 a45:=Tryz.isAgg280
 z45:=Tryz.sizeOf280
 v45:=Tryz.zeroValue280
 t46:=Tryz.underlying281
 a46:=Tryz.isAgg281
 z46:=Tryz.sizeOf281
 v46:=Tryz.zeroValue281
 t50:=Tryz.underlying179
 a50:=Tryz.isAgg179
 z50:=Tryz.sizeOf179
 v50:=Tryz.zeroValue179
 t53:=Tryz.underlying94
 a53:=Tryz.isAgg94
 z53:=Tryz.sizeOf94
 v53:=Tryz.zeroValue94
 t55:=Tryz.underlying288
 a55:=Tryz.isAgg288
 z55:=Tryz.sizeOf288
 v55:=Tryz.zeroValue288
 t66:=Tryz.underlying307
 a66:=Tryz.isAgg307
 z66:=Tryz.sizeOf307
 v66:=Tryz.zeroValue307
 t70:=Tryz.underlying311
 a70:=Tryz.isAgg311
 z70:=Tryz.sizeOf311
 v70:=Tryz.zeroValue311
 t76:=Tryz.underlying322
 a76:=Tryz.isAgg322
 z76:=Tryz.sizeOf322
 v76:=Tryz.zeroValue322
 t77:=Tryz.underlying236
 a77:=Tryz.isAgg236
 z77:=Tryz.sizeOf236
 v77:=Tryz.zeroValue236 }
def Tryz.sortDc_ren:Go.Shelf.Ren:=⟨fun | 6=>155 | 15=>195 | 14=>208 | 28=>231 | 29=>232 | 20=>247 | 21=>248 | 22=>249 | 23=>250 | 24=>251 | 25=>252 | 26=>253 | 27=>254 | 46=>281 | 47=>271 | 48=>272 | 49=>282 | 50=>283 | 57=>293 | n=>n,fun | 22=>24 | 24=>84 | 25=>227 | 3=>3 | 39=>266 | 0=>0 | 53=>94 | 55=>288 | 4=>4 | 46=>281 | 45=>280 | 50=>179 | 5=>5 | 9=>9 | 66=>307 | 70=>311 | 76=>322 | 77=>236 | n=>n,fun | n=>n⟩
theorem Tryz.sortDc:Go.Proofs.SlLaysF0.n6 Tryz.prog Tryz.sortDc_ren:={
 mixed:=by kernel_rfl
 f6:=⟨Tryz.f155.name,by decide,func155.trans (congrArg some (by kernel_rfl))⟩
 f14:=⟨Tryz.f208.name,by decide,func208.trans (congrArg some (by kernel_rfl))⟩
 f15:=func195.trans (congrArg some (by kernel_rfl))
 f20:=⟨Tryz.f247.name,by decide,func247.trans (congrArg some (by kernel_rfl))⟩
 f21:=⟨Tryz.f248.name,by decide,func248.trans (congrArg some (by kernel_rfl))⟩
 f22:=⟨Tryz.f249.name,by decide,func249.trans (congrArg some (by kernel_rfl))⟩
 f23:=⟨Tryz.f250.name,by decide,func250.trans (congrArg some (by kernel_rfl))⟩
 f24:=⟨Tryz.f251.name,by decide,func251.trans (congrArg some (by kernel_rfl))⟩
 f25:=⟨Tryz.f252.name,by decide,func252.trans (congrArg some (by kernel_rfl))⟩
 f26:=⟨Tryz.f253.name,by decide,func253.trans (congrArg some (by kernel_rfl))⟩
 f27:=⟨Tryz.f254.name,by decide,func254.trans (congrArg some (by kernel_rfl))⟩
 f28:=func231.trans (congrArg some (by kernel_rfl))
 f29:=func232.trans (congrArg some (by kernel_rfl))
 f46:=⟨Tryz.f281.name,by decide,func281.trans (congrArg some (by kernel_rfl))⟩
 f47:=func271.trans (congrArg some (by kernel_rfl))
 f48:=func272.trans (congrArg some (by kernel_rfl))
 f49:=⟨Tryz.f282.name,by decide,func282.trans (congrArg some (by kernel_rfl))⟩
 f50:=⟨Tryz.f283.name,by decide,func283.trans (congrArg some (by kernel_rfl))⟩
 f57:=⟨Tryz.f293.name,by decide,func293.trans (congrArg some (by kernel_rfl))⟩
 t0:=Tryz.underlying0
 a0:=Tryz.isAgg0
 z0:=Tryz.sizeOf0
 v0:=Tryz.zeroValue0
 t3:=Tryz.underlying3
 a3:=Tryz.isAgg3
 z3:=Tryz.sizeOf3
 v3:=Tryz.zeroValue3
 t4:=Tryz.underlying4
 a4:=Tryz.isAgg4
 z4:=Tryz.sizeOf4
 v4:=Tryz.zeroValue4
 t5:=Tryz.underlying5
 a5:=Tryz.isAgg5
 z5:=Tryz.sizeOf5
 v5:=Tryz.zeroValue5
 t9:=Tryz.underlying9
 a9:=Tryz.isAgg9
 z9:=Tryz.sizeOf9
 v9:=Tryz.zeroValue9
 t22:=Tryz.underlying24
 a22:=Tryz.isAgg24
 z22:=Tryz.sizeOf24
 v22:=Tryz.zeroValue24
 t25:=Tryz.underlying227
 a25:=Tryz.isAgg227
 z25:=Tryz.sizeOf227
 v25:=Tryz.zeroValue227
 t39:=Tryz.underlying266
 a39:=Tryz.isAgg266
 z39:=Tryz.sizeOf266
 v39:=Tryz.zeroValue266
 t45:=Tryz.underlying280
 a45:=Tryz.isAgg280
 z45:=Tryz.sizeOf280
 v45:=Tryz.zeroValue280
 t46:=Tryz.underlying281
 a46:=Tryz.isAgg281
 z46:=Tryz.sizeOf281
 v46:=Tryz.zeroValue281
 t50:=Tryz.underlying179
 a50:=Tryz.isAgg179
 z50:=Tryz.sizeOf179
 v50:=Tryz.zeroValue179
 t53:=Tryz.underlying94
 a53:=Tryz.isAgg94
 z53:=Tryz.sizeOf94
 v53:=Tryz.zeroValue94
 t55:=Tryz.underlying288
 a55:=Tryz.isAgg288
 z55:=Tryz.sizeOf288
 v55:=Tryz.zeroValue288
 t66:=Tryz.underlying307
 a66:=Tryz.isAgg307
 z66:=Tryz.sizeOf307
 v66:=Tryz.zeroValue307
 t70:=Tryz.underlying311
 a70:=Tryz.isAgg311
 z70:=Tryz.sizeOf311
 v70:=Tryz.zeroValue311
 t76:=Tryz.underlying322
 a76:=Tryz.isAgg322
 z76:=Tryz.sizeOf322
 v76:=Tryz.zeroValue322
 t77:=Tryz.underlying236
 a77:=Tryz.isAgg236
 z77:=Tryz.sizeOf236
 v77:=Tryz.zeroValue236 }
def Tryz.cmpInt_ren:Go.Shelf.Ren:=⟨fun | 5=>62 | 7=>124 | n=>n,fun | 22=>3 | 3=>3 | 4=>4 | n=>n,fun | n=>n⟩
theorem Tryz.cmpInt:Go.Proofs.SlLaysC2.n5 Tryz.prog Tryz.cmpInt_ren:={
 mixed:=by kernel_rfl
 f5:=⟨Tryz.f62.name,by decide,func62.trans (congrArg some (by kernel_rfl))⟩
 f7:=⟨Tryz.f124.name,by decide,func124.trans (congrArg some (by kernel_rfl))⟩
 t3:=Tryz.underlying3
 a3:=Tryz.isAgg3
 z3:=Tryz.sizeOf3
 v3:=Tryz.zeroValue3
 t4:=Tryz.underlying4
 a4:=Tryz.isAgg4
 z4:=Tryz.sizeOf4
 v4:=Tryz.zeroValue4
 t22:=Tryz.underlying3
 a22:=Tryz.isAgg3
 z22:=Tryz.sizeOf3
 v22:=Tryz.zeroValue3 }
end Go.Proofs
end
section
namespace Go.Proofs
open Go.RowKit Go.Lib Go.Sort Go.Shelf
namespace KV
open Tryz

set_option maxHeartbeats 1000000 in
theorem bXl(a b c d:Int)(W:World):Calls Tp 154 #[.agg #[.int .i64 a,.int .i64 b],.agg #[.int .i64 c,.int .i64 d]] W fun e w'=>e = .returned (.int .i64 (Lib.compareInt a c))∧∃ q Py,w'=grow (W.drewN q) Py:=by
 have hcon:=fun W'=>AnyG.cmp_Compare_int Tryz.cmpInt a c W'
 change ∀ W',Calls Tp 62 _ _ _ at hcon
 generalize Lib.compareInt a c=r at hcon ⊢
 go_enter func154,Tryz.ntmps154
 go_wp2_with (go_at_call 62;refine (hcon _).mono ?_;rintro e w' ⟨rfl,rfl⟩)
 go_ret
 exact ⟨rfl,0,_,by rw [alloc_eq_grow,alloc_eq_grow,grow_grow];rfl⟩
set_option maxHeartbeats 1000000 in
theorem bXm(a b c d e f a' b' c' d' e' f':Int)(W:World):Calls Tp 156 #[.agg #[.int .i64 a,.int .i64 b,.int .i64 c,.int .i64 d,.int .i64 e,.int .i64 f],.agg #[.int .i64 a',.int .i64 b',.int .i64 c',.int .i64 d',.int .i64 e',.int .i64 f']] W fun z w'=>z = .returned (.int .i64 (Lib.compareInt a a'))∧∃ q Py,w'=grow (W.drewN q) Py:=by
 have hcon:=fun W'=>AnyG.cmp_Compare_int Tryz.cmpInt a a' W'
 change ∀ W',Calls Tp 62 _ _ _ at hcon
 generalize Lib.compareInt a a'=r at hcon ⊢
 go_enter func156,Tryz.ntmps156
 go_wp2_with (go_at_call 62;refine (hcon _).mono ?_;rintro e w' ⟨rfl,rfl⟩)
 go_ret
 exact ⟨rfl,0,_,by rw [alloc_eq_grow,alloc_eq_grow,grow_grow];rfl⟩

theorem vE{C:Cx}{M:Mem}{w:World}{x:AV}{us:List Value}(h:cG C M w [x] us):∃ u,us=[u]∧Rep C M w x u:=by
 cases h with | cons _ u _ _ h hr=>cases hr;exact ⟨u,rfl,h⟩
theorem bFa{C:Cx}{M:Mem}{w:World}{x y:AV}{us:List Value}(h:cG C M w [x,y] us):∃ u v,us=[u,v]∧Rep C M w x u∧Rep C M w y v:=by
 cases h with | cons _ u _ _ h hr=>obtain ⟨v,rfl,h2⟩:=vE hr;exact ⟨u,v,rfl,h,h2⟩
theorem bSr{C:Cx}{M:Mem}{w:World}{f:Nat}{u:Value}(h:Rep C M w (.fn f [] []) u):u = .func (.func f) #[] #[]:=by
 cases h with
 | fn _ _ _ us vs h1 h2 h3 h4 =>
  have e1:us = #[]:=Array.eq_empty_of_size_eq_zero h1;have e2:vs = #[]:=Array.eq_empty_of_size_eq_zero h2;subst e1;subst e2;rfl

theorem aFh{k:Nat}{l:Lqq}(hu:uni k l){j:Nat}(hj:j<(l.flatten.map aA).length):(l.flatten.map aA)[j] = .v ((lI k (l.toArray)[j / k]!)[j % k]!):=by
 have hL:(l.flatten).length=l.length*k:=oH hu;have Bp:j<l.length*k:=by rw [A8,hL] at hj;exact hj
 have hk:0<k:=by
  rcases Nat.eq_zero_or_pos k with h | h
  ·subst h;simp at Bp
  ·exact h
 have hq:j / k<l.length:=Nat.div_lt_of_lt_mul (by rw [Nat.mul_comm];exact Bp)
 have hm:j % k<k:=aWp _ hk;have hx:l[j / k]? = some l[j / k]:=Ap hq;have hxl:l[j / k].length=k:=hu _ (eT hq);have hf:l[j / k][j % k]? = some l[j / k][j % k]:=Ap (by omega)
 have:=nL hu hx hf;have e:j / k*k+j % k=j:=by rw [Nat.mul_comm];exact Nat.div_add_mod j k
 rw [e,Ap hj] at this
 rw [Option.some.inj this];have e2:(l.toArray)[j / k]! = l[j / k]:=by simp [hq]
 rw [e2];unfold lI;simp only [List.getElem!_eq_getElem?_getD,B6,aOg hm,Option.map_some,Option.getD_some,Bj,hf]

theorem aKy{f g ty k:Nat}(hsz:∃ i,Tryz.prog.info? ty=some i∧i.size=k)(hk:0<k)
  (hcall:∀ (blk cap:Nat) (d:Array (List Int)) (w:World),HoldsK (lI k) k w blk 0 d→blk<w.heap.size→d.size<4611686018427387904→Calls Tp f #[.slice (some ⟨blk,0,none⟩) d.size cap,.func (.func g) #[] #[]] w fun e w' =>
   e = .returned (.tuple #[])∧∃ d' n os,PermIn 0 d.size d d'∧SortedIn (ltOf cfL) 0 d.size d'∧w'=sortWorldK (lI k) k w blk 0 n d' os)
  (hnil:∀ (p:Option Addr) (cap:Nat) (fv:Value) (w:World),Calls Tp f #[.slice p 0 cap,fv] w fun e w'=>e = .returned (.tuple #[])∧w'=w)
  (l:Lqq) (hu:uni k l) (hn:(aL l 0).Nodup) (hl:l.length≤1000) :
  FMM Tp f [.own 0,.fn g [] []] [some (.row ty l.length (l.flatten.map aA))] (.tup []) [some (.row ty (aB l).length ((aB l).flatten.map aA))]:=fun C w us hus hM n=>by
 obtain ⟨u,v,rfl,Mv,hv⟩:=bFa hus;obtain rfl:=bSr hv;rw [fB];have hown:(C.ι 0=none∧u = .slice none 0 0∧l.length=0)∨∃ b,C.ι 0=some b∧u = .slice (some ⟨b,0,none⟩) l.length (C.κ 0):=by
  cases Mv with
  | own _ _ h0 ha hr =>
   rcases hr _ _ _ rfl with ⟨q1,q2,q3⟩ | ⟨b,q1,q2⟩
   ·exact .inl ⟨q2,q1,q3⟩
   ·exact .inr ⟨b,q2,q1⟩
 rcases hown with ⟨hι,rfl,h0⟩ | ⟨b,hι,rfl⟩
 ·obtain rfl:l=[]:=aDh h0
  refine (callsIn_wide.2 (hnil none 0 _ w)).mono ?_;rintro e w' ⟨rfl,rfl⟩;have e0:aB []=[]:=by simp [aB]
  rw [e0];exact ⟨_,rfl,C,Fr.refl _ _ _,hM,.tup [] #[] rfl (fun i h=>by simp at h)⟩
 ·rcases hM.row 0 _ _ _ rfl with ⟨D5,_⟩ | ⟨b',arr,i,q1,q2,q3,q4,q5,q6,q7,q8,q9⟩
  ·rw [hι] at D5;cases D5
  ·rw [hι] at q1;cases q1
   obtain ⟨i',B2,Bt⟩:=hsz;rw [q3] at B2;cases B2
   have hcell:∀ j (hj:j<(l.flatten.map aA).length),arr.getD j undef=(lI k (l.toArray)[j / k]!)[j % k]! := fun j hj=>by
    have:=q8 j hj;rw [aFh hu hj] at this
    exact bXe this
   have hlen:(l.flatten.map aA).length=l.length*k:=by rw [A8,oH hu]
   have hle:l.length*k≤arr.size:=by rw [q4,Bt];exact Nat.mul_le_mul_right k q6
   have hH:HoldsK (lI k) k w b 0 l.toArray:=by
    unfold HoldsK Holds;intro j hj;rw [size_flatK] at hj
    have Dm:j<l.length*k:=by simpa using hj
    rw [get_flatK _ _ _ _ hj,← hcell j (by rw [hlen];exact Dm)]
    have hja:j<arr.size:=by omega
    rw [fE];refine ⟨?_,?_⟩
    ·unfold World.cell?
     simp only [q2];rw [A4,pA hja];simp
    ·unfold World.frozen?
     simp [q2]
   have hb:b<w.heap.size:=lt_of_block q2;have hc:=hcall b (C.κ 0) l.toArray w hH hb (by simp;omega)
   rw [List.size_toArray] at hc
   refine (callsIn_wide.2 hc).mono ?_;rintro e w' ⟨rfl,d',m,os,hp,hs,rfl⟩;have hd:d'.size=l.length:=by have:=hp.1;simpa using this
   have hperm:d'.toList.Perm l:=by
    have:=hp.2.2;have e1:d'.extract 0 l.length=d':=by rw [← hd];simp
    have e2:l.toArray.extract 0 l.length=l.toArray:=by simp
    rw [e1,e2] at this
    simpa using this
   have hsorted:d'.toList.Pairwise fun a b=>a.getD 0 0≤b.getD 0 0:=by
    rw [List.pairwise_iff_getElem];intro i j hi hj hij;have Dm:j<d'.size:=by simpa using hj
    have:=hs i j (Nat.zero_le _) hij (by omega)
    rw [ltL] at this
    have h3:=of_decide_eq_false this;rw [getElem!_pos d' i (by omega),getElem!_pos d' j Dm] at h3
    simpa using Int.not_lt.1 h3
   have Pb:d'=(aB l).toArray:=by
    have:=aBu hn hperm hsorted;rw [← this]
   subst Pb;have hsu:=kW hu;have hsl:=fB l;have hw:∃ Dz,(sortWorldK (lI k) k w b 0 m (aB l).toArray os).heap[b]? = some (.cells Dz ty (0,0))∧Dz.size=arr.size∧∀ j,j<l.length*k→Dz.getD j undef=(lI k (aB l).toArray[j / k]!)[j % k]! := by
    refine ⟨putCells id 0 (flatK (lI k) k (aB l).toArray) arr,?_,by simp [putCells],fun j hj => ?_⟩
    ·unfold sortWorldK grow putRowK putRow mapBlock
     have hlt:b<(w.heap.modify b (onCells (putCells id 0 (flatK (lI k) k (aB l).toArray)))).size:=by simpa using hb
     show (w.heap.modify b (onCells (putCells id 0 (flatK (lI k) k (aB l).toArray)))++os)[b]? = _;rw [Array.getElem?_append_left hlt,Array.getElem?_modify];simp [q2,onCells]
    ·have hja:j<arr.size:=by omega
     rw [A4];unfold putCells;rw [Array.getElem?_mapIdx,pA hja];have hsz:j<(flatK (lI k) k (aB l).toArray).size:=by rw [size_flatK];simpa [hsl] using hj
     simp only [Option.map_some,Option.getD_some,Nat.zero_le,true_and,fE,hsz,if_true,Nat.sub_zero,id];exact get_flatK _ _ _ _ (by simpa [hsl] using hj)
   obtain ⟨Dz,w1,w2,w3⟩:=hw;have Mw:((aB l).flatten.map aA).length=l.length*k:=by rw [A8,oH hsu,hsl]
   have hall:∀ j (h:j<((aB l).flatten.map aA).length),Dz.getD j undef=(lI k (aB l).toArray[j / k]!)[j % k]! := fun j h=>w3 j (by omega)
   obtain ⟨f1,m1⟩:=aPq (A9:=(aB l).flatten.map aA) (w':=sortWorldK (lI k) k w b 0 m (aB l).toArray os) hM hι q2 rfl rfl rfl
    (by unfold sortWorldK;rw [size_grow];show w.heap.size≤(w.heap.modify b _).size+_;simp)
    (fun b' h1 h2=>by
     show (w.heap.modify b (onCells (putCells id 0 (flatK (lI k) k (aB l).toArray)))++os)[b']? = _;rw [Array.getElem?_append_left (by simpa using h1),Array.getElem?_modify,if_neg (fun h=>h2 h.symm)])
    w1 w2 (by rw [Mw,hlen]) (fun j h=>by rw [aFh hsu h,hall j h];exact .v _)
    (fun j h=>by
     rw [hall j h];have:=aBt k ((aB l).toArray[j / k]!) ((lI k (aB l).toArray[j / k]!)[j % k]!) (by
      have hm:j % k<(lI k (aB l).toArray[j / k]!).length:=by rw [aBs];exact aWp _ hk
      rw [List.getElem!_eq_getElem?_getD,Ap hm];exact eT hm)
     exact this)
   exact ⟨_,rfl,C,f1,m1,.tup [] #[] rfl (fun i h=>by simp at h)⟩
end KV
end Go.Proofs
end
section
namespace Go.Proofs
open Go.RowKit Go.Lib Go.Sort Go.Shelf
namespace KV
open Tryz

theorem J7:(Tryz.prog.info? 80).map (fun i=>i.size)=some 2:=by kernel_rfl
theorem J8:(Tryz.prog.info? 84).map (fun i=>i.size)=some 6:=by kernel_rfl
theorem rX{t k:Nat}(h:(Tryz.prog.info? t).map (fun i=>i.size)=some k):∃ i,Tryz.prog.info? t=some i∧i.size=k:=by
 cases h2:Tryz.prog.info? t with
 | none=>rw [h2] at h;cases h
 | some i=>rw [h2] at h;exact ⟨i,rfl,by simpa using h⟩
theorem aYk(l:Lqq)(hu:uni 2 l)(hn:(aL l 0).Nodup)(hl:l.length≤1000):FMM Tp 153 [.own 0,.fn 154 [] []] [some (.row 80 l.length (l.flatten.map aA))] (.tup []) [some (.row 80 (aB l).length ((aB l).flatten.map aA))] :=
 aKy (k:=2) (rX J7) (by omega)
  (fun blk cap d w hH hb hd=>AnyQ.slices_SortFunc Tryz.sortSk 2 Tryz.isAgg80 Tryz.sizeOf80 (lI 2) (aBs 2) (aBt 2) cfL bXn 154 #[] blk 0 cap d w (enters_of func154 (by kernel_rfl) rfl)
   (fun m os dk _ x y=>bXl (x.getD 0 0) (x.getD 1 0) (y.getD 0 0) (y.getD 1 0) _) hH hb hd)
  (fun p cap fv w=>AnyF.slices_SortFunc_none Tryz.sortSk p cap fv w) l hu hn hl
theorem aYl(l:Lqq)(hu:uni 6 l)(hn:(aL l 0).Nodup)(hl:l.length≤1000):FMM Tp 155 [.own 0,.fn 156 [] []] [some (.row 84 l.length (l.flatten.map aA))] (.tup []) [some (.row 84 (aB l).length ((aB l).flatten.map aA))] :=
 aKy (k:=6) (rX J8) (by omega)
  (fun blk cap d w hH hb hd=>AnyQ.slices_SortFunc Tryz.sortDc 6 Tryz.isAgg84 Tryz.sizeOf84 (lI 6) (aBs 6) (aBt 6) cfL bXn 156 #[] blk 0 cap d w (enters_of func156 (by kernel_rfl) rfl)
   (fun m os dk _ x y=>bXm (x.getD 0 0) (x.getD 1 0) (x.getD 2 0) (x.getD 3 0) (x.getD 4 0) (x.getD 5 0) (y.getD 0 0) (y.getD 1 0) (y.getD 2 0) (y.getD 3 0) (y.getD 4 0) (y.getD 5 0) _) hH hb hd)
  (fun p cap fv w=>AnyF.slices_SortFunc_none Tryz.sortDc p cap fv w) l hu hn hl
end KV
end Go.Proofs
end
section
namespace Go.Proofs
open Go.RowKit Go.Lib Go.Shelf
namespace KV
open Tryz

theorem aYj{f ty k:Nat}(hsz:∃ i,Tryz.prog.info? ty=some i∧i.size=k)
  (h:∀ (p:Option Addr) (c:Nat) (w:World),Calls Tp f #[.slice p 0 c] w fun e w'=>∃ v',e = .returned v'∧w'.ownsRow w.heap.size ty k v' 0 []∧Below w.heap.size w w') {base:Nat} :
  FV Tp f [.p (.sl 0 [])] base (.own base) [(base,.row ty 0 [])]:=by
 refine ⟨.own 0,[some (.row ty 0 [])],fun C w us hus hM n => ?_,by simp [aUx,bCz,eM,bG,bDa,aUw]⟩
 obtain ⟨u,rfl,hu⟩:=vE hus;cases hu with
 | p _ _ hu =>
  have Tm:∃ p c,u = .slice p 0 c:=by cases hu with | sl n cs p cap us h1 h2 h3 h4 h5=>exact ⟨p,cap,rfl⟩
  obtain ⟨p,c,rfl⟩:=Tm;refine (callsIn_wide.2 (h p c w)).mono ?_;rintro e w' ⟨v',rfl,h1,h2⟩;have Cd:∀ (id:Nat) (o:AO),([some (.row ty 0 [])]:Mem)[id]? = some (some o)→id=0∧o = .row ty 0 []:=fun id o h=>by
   cases id with
   | zero=>simp at h;exact ⟨rfl,h.symm⟩
   | succ i=>simp at h
  have hno:∀ (id:Nat) (o:AO),¬ (([]:Mem)[id]? = some (some o)):=fun id o h=>by simp at h
  have hc:(v' = .slice none 0 0)∨∃ g cap cur,v' = .slice (some ⟨g,0,none⟩) 0 cap∧w.heap.size≤g∧w'.heap[g]? = some (.cells cur ty (0,0))∧cap≤maxLen∧cur.size=cap*k:=by
   rcases h1.2 with ⟨he,h0⟩ | ⟨g,cp,cur,he,hg,hh,r1,r2,r3,r4⟩
   ·exact .inl he
   ·exact .inr ⟨g,cp,cur,he,hg,hh,r2,r3⟩
  have new:∀ b,v'.ownBlock=some b→w.heap.size≤b∧b<w'.heap.size:=fun b hb=>by
   rcases hc with rfl | ⟨g,cap,cur,rfl,hg,hh,_⟩
   ·cases hb
   ·cases hb;exact ⟨hg,lt_of_block hh⟩
  refine ⟨_,rfl,{ ι:=fun _=>v'.ownBlock,κ:=fun _=>(match v' with | .slice _ _ c=>c | _=>0),F:=C.F },⟨h2.os,h2.tape,h2.output,h2.size,fun b hb _=>h2.block b hb,fun id o h=>absurd h (hno id o),fun id o h=>absurd h (hno id o),fun id o h=>absurd h (hno id o),fun id o b hm hl hb => .inl (new b hb).1,fun _ h=>h,fun _ h => .inl h⟩,
   ⟨fun id ty n cs hm => ?_,fun id ty cs hm => ?_,fun id es cl hm => ?_,fun id Ep o o' b q1 _ q2 _ _ _ => ?_,fun id o b hm hl hb hf => ?_,fun b hb=>B5 (hM.Fs b hb) h2.size,fun id o b hm hl hb=>(new b hb).2⟩,?_⟩
  ·obtain ⟨rfl,he⟩:=Cd _ _ hm
   cases he
   rcases hc with rfl | ⟨g,cap,cur,rfl,_,hh,r2,r3⟩
   ·exact .inl ⟨rfl,rfl,rfl⟩
   ·obtain ⟨i,hi,hs⟩:=hsz
    exact .inr ⟨g,cur,i,rfl,hh,hi,by rw [hs];exact r3,by simp,Nat.zero_le _,r2,fun j h=>by simp at h,fun j h=>by simp at h⟩
  ·obtain ⟨_,he⟩:=Cd _ _ hm;cases he
  ·obtain ⟨_,he⟩:=Cd _ _ hm;cases he
  ·obtain ⟨rfl,_⟩:=Cd _ _ q1
   obtain ⟨rfl,_⟩:=Cd _ _ q2;rfl
  ·have:=hM.Fs _ hf
   have:=(new b hb).1;omega
  ·have h0:v'.oneCell'=true:=by rcases hc with rfl | ⟨g,cap,cur,rfl,_⟩ <;> rfl
   refine .own 0 _ h0 ⟨_,rfl⟩ fun Cb n cs hm => ?_
   obtain ⟨_,he⟩:=Cd _ _ hm;cases he
   rcases hc with rfl | ⟨g,cap,cur,rfl,_⟩
   ·exact .inl ⟨rfl,rfl,rfl⟩
   ·exact .inr ⟨g,rfl,rfl⟩
end KV
end Go.Proofs
end
namespace Go.Proofs
namespace KV
open Tryz
section

theorem aBr{k:Nat}{l:Lqq}(hu:uni k l):(l.flatten.map aA).length=l.length*k:=by rw [A8,oH hu]
end
section

theorem bSp{dl:Int}{sk dc:Lqq}(h0:uni 2 sk)(h1:uni 6 dc)(h2:(bEr dl sk dc)=0)(h3:0≤(sk.length:Int)∧(sk.length:Int)≤(sk.length:Int)∧(sk.length:Int)≤1000000)(h4:0≤(dc.length:Int)∧(dc.length:Int)≤(dc.length:Int)∧(dc.length:Int)≤1000000)(h5:(aL sk 0).Nodup)(h6:sk.length≤1000)(h7:(aL dc 0).Nodup)(h8:dc.length≤1000){base:Nat}:FV Tp 88 [(.p (.agg (dX dl sk dc)))] base (.tup [(.p (.agg (dX dl (aB sk) (aB dc)))),(pI 0)]) []:=have k1:=fk 2 (bRa dl sk dc h0 h1) rfl;have k2:=mq [3] 7 (aYk sk h0 h5 h6);have k3:=mq [5] 7 (aYl dc h1 h7 h8);FV.frz (FMM.fi 0 ⟨[],[],[3,5],[]⟩ func88 [k1.o,bF,k2.o,k3.o] (gc k3 (gc k2 (gt ((dc.flatten.map aA).length=dc.length*6∧dc.length=dc.length) ⟨aBr h1,rfl⟩ (gt ((sk.flatten.map aA).length=sk.length*2∧sk.length=sk.length) ⟨aBr h0,rfl⟩ (gc h4 (gc h3 (gc (iI h2) (gc k1 gn))))))))) (by kernel_rfl)
theorem bSq(dl:Int)(sk dc:Lqq)(h:cF dl sk dc){base:Nat}:FV Tp 88 [.p (.agg (dX dl sk dc))] base (.tup [.p (.agg (dX dl (aB sk) (aB dc))),.p (aA 0)]) []:=by
 have h1:=h.len;have h2:=h.len2;exact bSp h.us h.ud ((bKa h.us h.ud).2 h) (by omega) (by omega) h.ns (by omega) h.nd (by omega)
end
section
variable {n nx r0 r1 r2 st x0:Int}{l:List Int}

theorem bEy:(65519:Int)≠0:=by first | decide | simp
abbrev cU(n:Int):PV := .v (.int .u8 n)
theorem bLf(h0:n≤1):FMM Tp 30 [(.ptr 0 0),(pI n)] [some (.box 96 [(.p (.sl l.length (l.map cU))),(pI nx),(.p (.v (.int .u32 st)))])] (pI 0) [some (.box 96 [(.p (.sl l.length (l.map cU))),(pI nx),(.p (.v (.int .u32 st)))])]:=FMM.fi 1 gE func30 (rT 7) (G8 (aWq h0) gn)
theorem bLg(h0:(1:Int)<n)(h1:(l.length:Int)=0):FMM Tp 30 [(.ptr 0 0),(pI n)] [some (.box 96 [(.p (.sl l.length (l.map cU))),(pI nx),(.p (.v (.int .u32 st)))])] (pI 0) [some (.box 96 [(.p (.sl l.length (l.map cU))),(pI nx),(.p (.v (.int .u32 st)))])]:=FMM.fi 1 gE func30 (rF 7++[bT]) (gc (eP h1) (G8 (pZ h0) gn))
theorem bLh(h0:(1:Int)<n)(h1 h2:(l.length:Int)≠0)(h3:l[(nx.tmod (l.length:Int)).toNat]? = some x0)(h4:0≤(nx.tmod (l.length:Int)))(h5:inR (nx.tdiv (l.length:Int)))(h6:inR (nx+1))(h7:(IntKind.wrap .u32 (nx.tdiv (l.length:Int)))=0)(h8:n≤256)(h9:inR (IntKind.wrap .u32 x0))(B0:n≠0)(Ak:r0=((IntKind.wrap .u32 x0).tmod n))(J5:r1=(nx+1))(J6:r2=((IntKind.wrap .u32 ((IntKind.wrap .u32 ((IntKind.wrap .u32 ((IntKind.wrap .u32 (st*45))+(IntKind.wrap .u32 x0)))+(IntKind.wrap .u32 ((77:Int)*(IntKind.wrap .u32 (nx.tdiv (l.length:Int)))))))+1)).tmod 65519)):FMM Tp 30 [(.ptr 0 0),(pI n)] [some (.box 96 [(.p (.sl l.length (l.map cU))),(pI nx),(.p (.v (.int .u32 st)))])] (pI r0) [some (.box 96 [(.p (.sl l.length (l.map cU))),(pI r1),(.p (.v (.int .u32 r2)))])]:=by
 subst Ak J5 J6;exact FMM.fi 1 gE func30 (rF 8++[.x (.v (.int .u8 x0)),bT,bT,bT,bT]) (gc B0 (gc h9 (gc (aWq h8) (Ar (eP h7) (gc bEy (gc h6 (gc h5 (gc h2 (gt ((l.map cU)[((nx.tmod (l.length:Int)).toNat*1)]? = some (.v (.int .u8 x0))) (mE (i:=(nx.tmod (l.length:Int)).toNat) h3) (gc (oI (g:=cU) h4 h3) (gc h2 (gc (bL h1) (G8 (pZ h0) gn)))))))))))))
theorem bLi(h0:(1:Int)<n)(h1 h2:(l.length:Int)≠0)(h3:l[(nx.tmod (l.length:Int)).toNat]? = some x0)(h4:0≤(nx.tmod (l.length:Int)))(h5:inR (nx.tdiv (l.length:Int)))(h6:inR (nx+1))(h7:(IntKind.wrap .u32 (nx.tdiv (l.length:Int)))=0)(h8:(256:Int)<n)(h9:inR (IntKind.wrap .u32 ((IntKind.wrap .u32 (((IntKind.wrap .u32 ((IntKind.wrap .u32 ((IntKind.wrap .u32 ((IntKind.wrap .u32 (st*45))+(IntKind.wrap .u32 x0)))+(IntKind.wrap .u32 ((77:Int)*(IntKind.wrap .u32 (nx.tdiv (l.length:Int)))))))+1)).tmod 65519)*256))+(IntKind.wrap .u32 x0))))(B0:n≠0)(Ak:r0=((IntKind.wrap .u32 ((IntKind.wrap .u32 (((IntKind.wrap .u32 ((IntKind.wrap .u32 ((IntKind.wrap .u32 ((IntKind.wrap .u32 (st*45))+(IntKind.wrap .u32 x0)))+(IntKind.wrap .u32 ((77:Int)*(IntKind.wrap .u32 (nx.tdiv (l.length:Int)))))))+1)).tmod 65519)*256))+(IntKind.wrap .u32 x0))).tmod n))(J5:r1=(nx+1))(J6:r2=((IntKind.wrap .u32 ((IntKind.wrap .u32 ((IntKind.wrap .u32 ((IntKind.wrap .u32 (st*45))+(IntKind.wrap .u32 x0)))+(IntKind.wrap .u32 ((77:Int)*(IntKind.wrap .u32 (nx.tdiv (l.length:Int)))))))+1)).tmod 65519)):FMM Tp 30 [(.ptr 0 0),(pI n)] [some (.box 96 [(.p (.sl l.length (l.map cU))),(pI nx),(.p (.v (.int .u32 st)))])] (pI r0) [some (.box 96 [(.p (.sl l.length (l.map cU))),(pI r1),(.p (.v (.int .u32 r2)))])]:=by
 subst Ak J5 J6;exact FMM.fi 1 gE func30 (rF 8++[.x (.v (.int .u8 x0)),bT,bT,bT,bF]) (gc B0 (gc h9 (gc (pZ h8) (Ar (eP h7) (gc bEy (gc h6 (gc h5 (gc h2 (gt ((l.map cU)[((nx.tmod (l.length:Int)).toNat*1)]? = some (.v (.int .u8 x0))) (mE (i:=(nx.tmod (l.length:Int)).toNat) h3) (gc (oI (g:=cU) h4 h3) (gc h2 (gc (bL h1) (G8 (pZ h0) gn)))))))))))))
theorem bLj(h0:(1:Int)<n)(h1 h2:(l.length:Int)≠0)(h3:l[(nx.tmod (l.length:Int)).toNat]? = some x0)(h4:0≤(nx.tmod (l.length:Int)))(h5:inR (nx.tdiv (l.length:Int)))(h6:inR (nx+1))(h7:(IntKind.wrap .u32 (nx.tdiv (l.length:Int)))≠0)(h8:inR (IntKind.wrap .u32 ((IntKind.wrap .u32 (((IntKind.wrap .u32 ((IntKind.wrap .u32 ((IntKind.wrap .u32 ((IntKind.wrap .u32 (st*45))+(IntKind.wrap .u32 x0)))+(IntKind.wrap .u32 ((77:Int)*(IntKind.wrap .u32 (nx.tdiv (l.length:Int)))))))+1)).tmod 65519)*256))+(IntKind.wrap .u32 x0))))(h9:n≠0)(Ak:r0=((IntKind.wrap .u32 ((IntKind.wrap .u32 (((IntKind.wrap .u32 ((IntKind.wrap .u32 ((IntKind.wrap .u32 ((IntKind.wrap .u32 (st*45))+(IntKind.wrap .u32 x0)))+(IntKind.wrap .u32 ((77:Int)*(IntKind.wrap .u32 (nx.tdiv (l.length:Int)))))))+1)).tmod 65519)*256))+(IntKind.wrap .u32 x0))).tmod n))(J5:r1=(nx+1))(J6:r2=((IntKind.wrap .u32 ((IntKind.wrap .u32 ((IntKind.wrap .u32 ((IntKind.wrap .u32 (st*45))+(IntKind.wrap .u32 x0)))+(IntKind.wrap .u32 ((77:Int)*(IntKind.wrap .u32 (nx.tdiv (l.length:Int)))))))+1)).tmod 65519)):FMM Tp 30 [(.ptr 0 0),(pI n)] [some (.box 96 [(.p (.sl l.length (l.map cU))),(pI nx),(.p (.v (.int .u32 st)))])] (pI r0) [some (.box 96 [(.p (.sl l.length (l.map cU))),(pI r1),(.p (.v (.int .u32 r2)))])]:=by
 subst Ak J5 J6;exact FMM.fi 1 gE func30 (rF 8++[.x (.v (.int .u8 x0)),bF,bF,bF]) (gc h9 (gc h8 (Ar (bL h7) (gc bEy (gc h6 (gc h5 (gc h2 (gt ((l.map cU)[((nx.tmod (l.length:Int)).toNat*1)]? = some (.v (.int .u8 x0))) (mE (i:=(nx.tmod (l.length:Int)).toNat) h3) (gc (oI (g:=cU) h4 h3) (gc h2 (gc (bL h1) (G8 (pZ h0) gn))))))))))))
def Cq(z:Int):Int:=IntKind.wrap .u32 z
theorem aHo(z:Int):0≤Cq z∧Cq z<4294967296:=by
 unfold Cq IntKind.wrap;simp only [IntKind.bits,IntKind.signed,Bool.false_and,Bool.false_eq_true,if_false];omega
def aKx(l:List Int)(nx:Int):Int:=Cq (l.getD (nx.tmod (l.length:Int)).toNat 0)
def bEz(l:List Int)(nx st:Int):Int:=(Cq (Cq (Cq (Cq (st*45)+aKx l nx)+Cq (77*Cq (nx.tdiv (l.length:Int))))+1)).tmod 65519
def dG(n:Int)(l:List Int)(nx st:Int):Int × Int × Int:=if n≤1∨l.length=0 then (0,nx,st) else
 (if Cq (nx.tdiv (l.length:Int))=0∧n≤256 then (aKx l nx).tmod n else (Cq (Cq (bEz l nx st*256)+aKx l nx)).tmod n,nx+1,bEz l nx st)
theorem jY(n:Int)(l:List Int)(nx st:Int):0≤(dG n l nx st).1∧((dG n l nx st).1<n∨(dG n l nx st).1=0)∧nx≤(dG n l nx st).2.1∧(dG n l nx st).2.1≤nx+1:=by
 unfold dG
 split
 ·simp;omega
 ·rename_i h
  simp only [not_or] at h
  have h1:∀ z:Int,0≤z→0≤z.tmod n∧z.tmod n<n:=fun z hz=>⟨Int.tmod_nonneg n hz,Int.tmod_lt_of_pos z (by omega)⟩
  have h2:=(aHo (l.getD (nx.tmod (l.length:Int)).toNat 0)).1;have h3:=(aHo (Cq (bEz l nx st*256)+aKx l nx)).1;dsimp only
  split
  ·have:=h1 _ h2;unfold aKx;omega
  ·have:=h1 _ h3;omega
abbrev nM(l:List Int)(nx st:Int):AO := .box 96 [.p (.sl l.length (l.map cU)),.p (aA nx),.p (.v (.int .u32 st))]
theorem aTp(n:Int)(l:List Int)(nx st:Int)(h:0≤nx∧nx≤1000000000):FMM Tp 30 [.ptr 0 0,.p (aA n)] [some (nM l nx st)] (.p (aA (dG n l nx st).1)) [some (nM l (dG n l nx st).2.1 (dG n l nx st).2.2)]:=by
 by_cases h1:n≤1
 ·have e:dG n l nx st=(0,nx,st):=by unfold dG;rw [if_pos (.inl h1)]
  rw [e];exact bLf h1
 ·by_cases h2:l.length=0
  ·have e:dG n l nx st=(0,nx,st):=by unfold dG;rw [if_pos (.inr h2)]
   rw [e];exact bLg (by omega) (by omega)
  ·have h0:0≤nx.tmod (l.length:Int)∧nx.tmod (l.length:Int)<(l.length:Int):=⟨Int.tmod_nonneg _ h.1,Int.tmod_lt_of_pos _ (by omega)⟩
   have hq:0≤nx.tdiv (l.length:Int)∧nx.tdiv (l.length:Int)≤nx:=⟨Int.tdiv_nonneg h.1 (by omega),Int.tdiv_le_self _ h.1⟩
   have hi:(nx.tmod (l.length:Int)).toNat<l.length:=by omega
   have hg:l[(nx.tmod (l.length:Int)).toNat]? = some (l.getD (nx.tmod (l.length:Int)).toNat 0):=by
    rw [Ap hi,Bj,Ap hi];rfl
   have hw:∀ z,inR (IntKind.wrap .u32 z):=fun z=>by have:=aHo z;unfold Cq at this;unfold inR;omega
   unfold dG;rw [if_neg (by simp only [not_or];exact ⟨h1,h2⟩)]
   dsimp only
   by_cases h3:Cq (nx.tdiv (l.length:Int))=0
   ·by_cases h4:n≤256
    ·rw [if_pos ⟨h3,h4⟩]
     exact bLh (by omega) (by omega) (by omega) hg h0.1 (by show _∧_;omega) (by show _∧_;omega) h3 h4 (hw _) (by omega) rfl rfl rfl
    ·rw [if_neg (fun h=>h4 h.2)]
     exact bLi (by omega) (by omega) (by omega) hg h0.1 (by show _∧_;omega) (by show _∧_;omega) h3 (by omega) (hw _) (by omega) rfl rfl rfl
   ·rw [if_neg (fun h=>h3 h.1)]
    exact bLj (by omega) (by omega) (by omega) hg h0.1 (by show _∧_;omega) (by show _∧_;omega) h3 (hw _) (by omega) rfl rfl rfl
theorem bSn{lo hi:Int}(h0:inR (hi-lo))(h1:inR ((hi-lo)+1))(h2:0≤nx∧nx≤1000000000)(h3:inR (lo+((dG ((hi-lo)+1) l nx st).1)))(Ak:r0=(lo+((dG ((hi-lo)+1) l nx st).1)))(J5:r1=((dG ((hi-lo)+1) l nx st).2.1))(J6:r2=((dG ((hi-lo)+1) l nx st).2.2)):FMM Tp 9 [(.ptr 0 0),(pI lo),(pI hi)] [some (.box 96 [(.p (.sl l.length (l.map cU))),(pI nx),(.p (.v (.int .u32 st)))])] (pI r0) [some (.box 96 [(.p (.sl l.length (l.map cU))),(pI r1),(.p (.v (.int .u32 r2)))])]:=by
 subst Ak J5 J6;have k1:=mq [0] 1 (aTp ((hi-lo)+1) l nx st h2);exact FMM.fi 1 gE func9 [k1.o] (gc h3 (gc k1 (gc h1 (gc h0 gn))))
def qR(lo hi:Int)(l:List Int)(nx st:Int):Int × Int × Int:=(lo+(dG (hi-lo+1) l nx st).1,(dG (hi-lo+1) l nx st).2)
theorem yZ(lo hi:Int)(l:List Int)(nx st:Int):lo≤(qR lo hi l nx st).1∧((qR lo hi l nx st).1≤hi∨(qR lo hi l nx st).1=lo)∧nx≤(qR lo hi l nx st).2.1∧(qR lo hi l nx st).2.1≤nx+1:=by
 have:=jY (hi-lo+1) l nx st;unfold qR;dsimp only;omega
theorem bSo(lo hi:Int)(l:List Int)(nx st:Int)(h:0≤nx∧nx≤1000000000)(hb:(-1000000≤lo∧lo≤1000000) ∧ -1000000≤hi∧hi≤1000000):FMM Tp 9 [.ptr 0 0,.p (aA lo),.p (aA hi)] [some (nM l nx st)] (.p (aA (qR lo hi l nx st).1)) [some (nM l (qR lo hi l nx st).2.1 (qR lo hi l nx st).2.2)]:=by
 have:=yZ lo hi l nx st;exact bSn (by show _∧_;omega) (by show _∧_;omega) h (show inR (qR lo hi l nx st).1 by unfold inR;omega) rfl rfl rfl
theorem aPp{r Ic Ag:Int}(lo hi:Int)(l:List Int)(nx st:Int)(h:0≤nx∧nx≤1000000000)(hb:(-1000000≤lo∧lo≤1000000) ∧ -1000000≤hi∧hi≤1000000)(e:qR lo hi l nx st=(r,Ic,Ag)):FMM Tp 9 [.ptr 0 0,.p (aA lo),.p (aA hi)] [some (nM l nx st)] (pI r) [some (nM l Ic Ag)]:=by
 have:=bSo lo hi l nx st h hb;rw [e] at this
 exact this
theorem oK{r Ic Ag:Int}(n:Int)(l:List Int)(nx st:Int)(h:0≤nx∧nx≤1000000000)(e:dG n l nx st=(r,Ic,Ag)):FMM Tp 30 [.ptr 0 0,.p (aA n)] [some (nM l nx st)] (pI r) [some (nM l Ic Ag)]:=by
 have:=aTp n l nx st h;rw [e] at this
 exact this
theorem bXk:FMM Tp 8 [(.p (.sl l.length (l.map cU)))] [] (.ptr 0 0) [some (.box 96 [(.p (.sl l.length (l.map cU))),(pI 0),(.p (.v (.int .u32 17)))])]:=FMM.fi 0 ⟨[],[0],[],[]⟩ func8 [] gn
end
section
variable {s er mx my r0 r7 tt ty Da Be B3 Dy:Int}{l:Lqq}{ls re A6:List Int}{i j k:Nat}

noncomputable abbrev aHc:Code:=sub (cd Tryz.f28) [1,1,0,1,0,0]
noncomputable abbrev aHd:Code:=sub (cd Tryz.f28) [1,1,1,1,0,1,0,0]
noncomputable abbrev aHe:Code:=sub (cd Tryz.f28) [1,1,1,1,0,1,0,0,1,1,0,0,1,1,1,0,1,0,0]
theorem bPp{lo hi:Int}{base:Nat}:FV Tp 76 [(pI lo),(pI hi)] base (.p (.agg [(aA lo),(aA hi)])) []:=FV.fi func76 [] gn
theorem bPq(lo hi:Int){base:Nat}:FV Tp 76 [.p (aA lo),.p (aA hi)] base (.p (.agg [aA lo,aA hi])) []:=bPp
def qC(ls:List Int)(er r0:Int)(i ren:Nat)(rec:List PV)(mx tt:Int):St:=⟨fr 81 [(0,(.ptr 0 0)),(2,(pI er)),(6,(.p dY)),(7,(.p dY)),(8,(.own 1)),(17,(pI r0)),(18,(pI (i:Int)))],[some (.box 96 [(.p (.sl ls.length (ls.map cU))),(pI mx),(.p (.v (.int .u32 tt)))]),some (.row 3 ren rec)]⟩
def qD(ls:List Int)(er:Int)(A6:List Int)(r7:Int)(j ln:Nat)(lc:List PV)(my ty:Int):St:=⟨fr 81 [(0,(.ptr 0 0)),(2,(pI er)),(6,(.p dY)),(7,(.p dY)),(8,(.own 1)),(9,(.own 2)),(27,(pI r7)),(28,(pI (j:Int)))],[some (.box 96 [(.p (.sl ls.length (ls.map cU))),(pI my),(.p (.v (.int .u32 ty)))]),some (.row 3 A6.length (A6.map aA)),some (.row 150 ln lc)]⟩
theorem bPr{nx st most m1 t2:Int}{Pg:Nat}{Hb Ju m8 t9:Int}{Pq:Nat}{Ib:Lqq}{I4 I5:Int}(h0:0≤nx∧nx≤1000000000)(h1:(-1000000≤1∧(1:Int)≤1000000) ∧ -1000000≤most∧most≤1000000)(h2:qR 1 most ls nx st=(r0,m1,t2))(Bl:aF Tp 1 aHc (qC ls er r0 0 0 [] m1 t2) (.exit 0) (qC ls er r0 Pg A6.length (A6.map aA) Hb Ju))(h4:0≤Hb∧Hb≤1000000000)(h5:dG 9 ls Hb Ju=(r7,m8,t9))(Rj:aF Tp 1 aHd (qD ls er A6 r7 0 0 [] m8 t9) (.exit 2) (qD ls er A6 r7 Pq Ib.length (Ib.flatten.map aA) I4 I5)):FMM Tp 28 [(.ptr 0 0),(pI most),(pI er)] [some (.box 96 [(.p (.sl ls.length (ls.map cU))),(pI nx),(.p (.v (.int .u32 st)))])] (.tup [(.own 1),(.own 2)]) [some (.box 96 [(.p (.sl ls.length (ls.map cU))),(pI I4),(.p (.v (.int .u32 I5)))]),some (.row 3 A6.length (A6.map aA)),some (.row 150 Ib.length (Ib.flatten.map aA))]:=have k1:=mq [0] 1 (aPp 1 most ls nx st h0 h1 h2);have k2:=mq [0] 2 (oK 9 ls Hb Ju h4 h5);FMM.fi 1 ⟨[],[1,2],[],[]⟩ func28 [k1.o,Bl.k 1 (gN bb [1] [(8,3)]),k2.o,Rj.k 1 (gN bh [1,2] [(9,150)])] (gc Rj.code (gc k2 (gc Bl.code (gc k1 gn))))
theorem aWy{Jv L3 L4:Int}{i':Nat}{Ob:List Int}(h0:(i:Int)<r0)(h1:0≤mx∧mx≤1000000000)(h2:dG 6 ls mx tt=(Jv,L3,L4))(h3:[(aA Jv)].length=1*1∧re.length+1≤1000000)(h4:da i)(Ai:i'=(i+1))(L5:Ob.length=(re.length+1))(L6:Ob.map aA=((re.map aA)++[(aA Jv)])):aC Tp 1 aHc (qC ls er r0 i re.length (re.map aA) mx tt) .normal (qC ls er r0 i' Ob.length (Ob.map aA) L3 L4):=by
 subst Ai;have k1:=mq [0] 2 (oK 6 ls mx tt h1 h2);rw [L5,L6];exact aC.fi (gI bb [3]) [bT,k1.o] (gc h4 (gc h3 (gc k1 (g0 h0))))
theorem aWz(h0:r0≤(i:Int)):aC Tp 1 aHc (qC ls er r0 i re.length (re.map aA) mx tt) (.exit 0) (qC ls er r0 i re.length (re.map aA) mx tt):=aC.fi (gI bb [1]) [bF] (gc (bA h0) gn)
def qE(ls:List Int)(er:Int)(A6:List Int)(r7:Int)(j:Nat)(l:Lqq)(Be B3 Da Dy:Int)(k:Nat)(s:Int):St:=⟨fr 81 [(0,(.ptr 0 0)),(2,(pI er)),(6,(.p dY)),(7,(.p dY)),(8,(.own 1)),(9,(.own 2)),(10,(pI Be)),(11,(.ptr 3 0)),(12,(pI s)),(27,(pI r7)),(28,(pI (j:Int))),(48,(.arr 1 (Be.toNat*1) ((B3+1).toNat-Be.toNat))),(49,(pI ((((B3+1).toNat-Be.toNat):Nat):Int))),(50,(pI (k:Int)))],[some (.box 96 [(.p (.sl ls.length (ls.map cU))),(pI Da),(.p (.v (.int .u32 Dy)))]),some (.row 3 A6.length (A6.map aA)),some (.row 150 l.length (l.flatten.map aA)),some (.box 150 [(pI Be),(pI B3),(pI 0),(pI 0)])]⟩
theorem aXa{Hc Jw:Int}{L8:Nat}{Ba Ea Hd Jy Eb L9 Ma:Int}{j':Nat}{l':Lqq}(h0:(j:Int)<r7)(h1:0≤my∧my≤1000000000)(h2:dG (A6.length:Int) ls my ty=(Be,Hc,Jw))(h3:inR ((A6.length:Int)-1))(h4:0≤Hc∧Hc≤1000000000)(h5:(-1000000≤Be∧Be≤1000000) ∧ -1000000≤((A6.length:Int)-1)∧((A6.length:Int)-1)≤1000000)(h6:qR Be ((A6.length:Int)-1) ls Hc Jw=(B3,Da,Dy))(h7:inR (B3+1))(h8:0≤Be∧Be≤(B3+1)∧(B3+1)≤(A6.length:Int))(Lq:aF Tp 1 aHe (qE ls er A6 r7 j l Be B3 Da Dy 0 0) (.exit 4) (qE ls er A6 r7 j l Be B3 Da Dy L8 Ba))(B0:inR (er+1))(Cg:0≤Da∧Da≤1000000000)(Cc:dG (er+1) ls Da Dy=(Ea,Hd,Jy))(Dp:inR (Ba-Ea))(D6:0≤Hd∧Hd≤1000000000)(F6:dG (er+1) ls Hd Jy=(Eb,L9,Ma))(G0:inR (Ba+Eb))(Jz:[(aA Be),(aA B3),(aA (if (Ba-Ea) > 0 then (Ba-Ea) else 0)),(aA (if (Ba+Eb)<72 then (Ba+Eb) else 72))].length=1*4∧l.length+1≤1000000)(J0:da j)(Dx:j'=(j+1))(Pr:l'.length=(l.length+1))(Ps:l'.flatten.map aA=((l.flatten.map aA)++[(aA Be),(aA B3),(aA (if (Ba-Ea) > 0 then (Ba-Ea) else 0)),(aA (if (Ba+Eb)<72 then (Ba+Eb) else 72))])):aC Tp 1 aHd (qD ls er A6 r7 j l.length (l.flatten.map aA) my ty) .normal (qD ls er A6 r7 j' l'.length (l'.flatten.map aA) L9 Ma):=by
 subst Dx;have k1:=mq [0] 3 (oK (A6.length:Int) ls my ty h1 h2);have k2:=mq [0] 3 (aPp Be ((A6.length:Int)-1) ls Hc Jw h4 h5 h6);have k3:=mq [0] 4 (oK (er+1) ls Da Dy Cg Cc);have k4:=mq [0] 4 (oK (er+1) ls Hd Jy D6 F6);have k5:=fk 4 (bPq (if (Ba-Ea) > 0 then (Ba-Ea) else 0) (if (Ba+Eb)<72 then (Ba+Eb) else 72)) rfl;rw [Pr,Ps];exact aC.fi (gI bh [1,5]) [bT,k1.o,k2.o,Lq.k 6 (gI aq [1,2,3]),k3.o,k4.o,k5.o] (gc J0 (gc Jz (gt ([(aA Be),(aA B3),(aA (if (Ba-Ea) > 0 then (Ba-Ea) else 0)),(aA (if (Ba+Eb)<72 then (Ba+Eb) else 72))].length=4) (by first | decide | simp) (gc k5 (gc G0 (gc k4 (gc B0 (gc Dp (gc k3 (gc B0 (gc Lq.code (gc h8 (gc h7 (gc k2 (gc h3 (gc k1 (g0 h0)))))))))))))))))
theorem aXb(h0:r7≤(j:Int)):aC Tp 1 aHd (qD ls er A6 r7 j l.length (l.flatten.map aA) my ty) (.exit 2) (qD ls er A6 r7 j l.length (l.flatten.map aA) my ty):=aC.fi (gI bh [1,2]) [bF] (gc (bA h0) gn)
theorem aXc{Db:Int}{k':Nat}{s':Int}(h0:(k:Int)<((((B3+1).toNat-Be.toNat):Nat):Int))(h1:0≤(k:Int)∧(k:Int)<((((B3+1).toNat-Be.toNat):Nat):Int))(h2:A6[((Be.toNat*1)+(k*1))]? = some Db)(h3:inR (s+Db))(h4:da k)(Jt:k'=(k+1))(Bq:s'=(s+Db)):aC Tp 1 aHe (qE ls er A6 r7 j l Be B3 Da Dy k s) .normal (qE ls er A6 r7 j l Be B3 Da Dy k' s'):=by
 subst Jt Bq;exact aC.fi (gI aq [1,2,3]) [bT,.x (aA Db)] (gc h4 (gc h3 (gt ((A6.map aA)[((Be.toNat*1)+(k*1))]? = some (aA Db)) (by rw [B6,h2];rfl) (gc h1 (g0 h0)))))
theorem aXd(h0:((((B3+1).toNat-Be.toNat):Nat):Int)≤(k:Int)):aC Tp 1 aHe (qE ls er A6 r7 j l Be B3 Da Dy k s) (.exit 4) (qE ls er A6 r7 j l Be B3 Da Dy k s):=aC.fi (gI aq [1,2,3]) [bF] (gc (bA h0) gn)
theorem bPs(ls:List Int){nx st:Int}(h:0≤nx∧nx≤999999000):∃ (re:List Int) (l:Lqq) (Ic Ag:Int),(1≤re.length∧re.length≤5)∧(∀ x∈re,0≤x∧x≤5)∧l.length≤20∧(∀ s∈l,bJy re.length s)∧(nx≤Ic∧Ic≤nx+100) ∧
  FMM Tp 28 [.ptr 0 0,.p (aA 5),.p (aA 1)] [some (nM ls nx st)] (.tup [.own 1,.own 2]) [some (nM ls Ic Ag),some (.row 3 re.length (re.map aA)),some (.row 150 l.length (l.flatten.map aA))]:=by
 have b0:=yZ 1 5 ls nx st
 rcases e0:qR 1 5 ls nx st with ⟨r0,m0,t0⟩
 rw [e0] at b0
 dsimp only at b0
 obtain ⟨n0,rfl⟩:=Int.eq_ofNat_of_zero_le (show 0≤r0 by omega)
 obtain ⟨⟨re,m1,t1⟩,⟨h1,h2,h3⟩,l0⟩:=aF.some (P:=Tp) (k:=1) (b:=aHc) (e := .exit 0) (fun i (a:List Int × Int × Int)=>qC ls 1 (n0:Int) i a.1.length (a.1.map aA) a.2.1 a.2.2) (fun i a=>a.1.length=i∧(∀ x∈a.1,0≤x∧x≤5)∧m0≤a.2.1∧a.2.1≤m0+(i:Int)) (fun a=>qC ls 1 (n0:Int) n0 a.1.length (a.1.map aA) a.2.1 a.2.2) (by simp) n0 (a0:=([],m0,t0)) ⟨rfl,fun _ h=>absurd h List.not_mem_nil,by dsimp only;omega⟩
  (fun i ⟨re,m,t⟩ hi ⟨h1,h2,h3⟩=>by
   dsimp only at h1 h2 h3
   have bd:=jY 6 ls m t
   rcases e:dG 6 ls m t with ⟨r,m',t'⟩
   rw [e] at bd
   dsimp only at bd
   refine ⟨(re++[r],m',t'),⟨by rw [fK,h1];rfl,fun x hx => ?_,by dsimp only;omega⟩,aWy (by omega) (by omega) e ⟨rfl,by omega⟩ (aM (by omega)) rfl (by simp) (by rw [eE];rfl)⟩
   rcases eU.1 hx with hx | hx
   ·exact h2 x hx
   ·rw [List.mem_singleton.1 hx];omega)
  (fun a _=>aWz (by omega))
 dsimp only at h1 h2 h3 l0
 have b7:=jY 9 ls m1 t1
 rcases e7:dG 9 ls m1 t1 with ⟨r7,m7,t7⟩
 rw [e7] at b7
 dsimp only at b7
 obtain ⟨n7,rfl⟩:=Int.eq_ofNat_of_zero_le (show 0≤r7 by omega)
 obtain ⟨⟨l,m8,t8⟩,⟨h4,h5,h6⟩,l1⟩:=aF.some (P:=Tp) (k:=1) (b:=aHd) (e := .exit 2) (fun j (a:Lqq × Int × Int)=>qD ls 1 re (n7:Int) j a.1.length (a.1.flatten.map aA) a.2.1 a.2.2) (fun j a=>a.1.length=j∧(∀ s∈a.1,bJy re.length s)∧m7≤a.2.1∧a.2.1≤m7+4*(j:Int)) (fun a=>qD ls 1 re (n7:Int) n7 a.1.length (a.1.flatten.map aA) a.2.1 a.2.2) (by simp) n7 (a0:=([],m7,t7)) ⟨rfl,fun _ h=>absurd h List.not_mem_nil,by dsimp only;omega⟩
  (fun j ⟨l,m,t⟩ hj ⟨h4,h5,h6⟩=>by
   dsimp only at h4 h5 h6
   have b1:=jY (re.length:Int) ls m t
   rcases e1:dG (re.length:Int) ls m t with ⟨r1,q1,u1⟩
   rw [e1] at b1
   dsimp only at b1
   have b2:=yZ r1 ((re.length:Int)-1) ls q1 u1
   rcases e2:qR r1 ((re.length:Int)-1) ls q1 u1 with ⟨r2,q2,u2⟩
   rw [e2] at b2
   dsimp only at b2
   have hc:r1≤r2∧r2<(re.length:Int):=by omega
   obtain ⟨s,h7,l2⟩:=aF.some (P:=Tp) (k:=1) (b:=aHe) (e := .exit 4) (fun k (s:Int)=>qE ls 1 re (n7:Int) j l r1 r2 q2 u2 k s) (fun k s=>0≤s∧s≤5*(k:Int)) (fun s=>qE ls 1 re (n7:Int) j l r1 r2 q2 u2 ((r2+1).toNat-r1.toNat) s) (by simp) ((r2+1).toNat-r1.toNat) (a0:=0) (by omega)
    (fun k s hk h7=>by
     have hi:r1.toNat*1+k*1<re.length:=by omega
     have hx:=h2 _ (eT hi);exact ⟨_,by omega,aXc (by omega) (by omega) (Ap hi) (by show _∧_;omega) (aM (by omega)) rfl rfl⟩)
    (fun s _=>aXd (by omega))
   have b3:=jY 2 ls q2 u2
   rcases e3:dG 2 ls q2 u2 with ⟨r3,q3,u3⟩
   rw [e3] at b3
   dsimp only at b3
   have b4:=jY 2 ls q3 u3
   rcases e4:dG 2 ls q3 u3 with ⟨r4,q4,u4⟩
   rw [e4] at b4
   dsimp only at b4
   refine ⟨(l++[[r1,r2,if (s-r3) > 0 then s-r3 else 0,if (s+r4)<72 then s+r4 else 72]],q4,u4),⟨by rw [fK,h4];rfl,fun x hx => ?_,by dsimp only;omega⟩,aXa (by omega) (by omega) e1 (by show _∧_;omega) (by omega) (by omega) e2 (by show _∧_;omega) (by omega) l2 (by decide) (by omega) e3 (by show _∧_;omega) (by omega) e4 (by show _∧_;omega) ⟨rfl,by omega⟩ (aM (by omega)) rfl (by simp) (by rw [aDi,eE];rfl)⟩
   rcases eU.1 hx with hx | hx
   ·exact h5 x hx
   ·rw [List.mem_singleton.1 hx]
    refine ⟨_,_,_,_,rfl,by omega,by omega,by omega,?_,?_,?_⟩
    ·split <;> omega
    ·split <;> split <;> omega
    ·split <;> omega)
  (fun a _=>aXb (by omega))
 dsimp only at h4 h5 h6 l1
 exact ⟨re,l,m8,t8,by omega,h2,by omega,h5,by omega,bPr (by omega) (by omega) e0 l0 (by omega) e7 l1⟩
end
end KV
end Go.Proofs
section
namespace Go.Proofs
open Go.RowKit
namespace KV
open Tryz
variable {P:Program} {T:TT} {E:Env} {C C0:Cx} {M M0:Mem} {w w0:World}
def eB(P:Program)(k:Nat)(c:Code)(st:St)(e:Ex)(Ag:St):Prop:=∀ (C0:Cx) (M0:Mem) (w0:World) (a:Act) (w:World),M0.length≤k→Sim P C0 M0 w0 st a w→∀ (ro:Option Nat) (n:Nat),c.wpIn (Fen ro) n P (fun e' a' w'=>e'=e.toExit∧Sim P C0 M0 w0 Ag a' w') a w
theorem eB.cast{k:Nat}{c:Code}{st st1 st2:St}{e:Ex}(h:eB P k c st e st1)(q:st1=st2):eB P k c st e st2:=q ▸ h
theorem bFt(hT:∀ t i,T t=some i→bU P t=some i)(hE:kI P E)(hm:P.follows .mixedOrders=true){id:Nat}{ops:Array Oper}{d:Bool}{st Ag:St}{s s':AS}(h:aJd P T E ops d st s=some (Ag,s'))(g:aW s'){k:Nat}:eB P k (.region id ops d) st .normal Ag:=by
 intro C0 M0 w0 a w _ hs ro n;cases d with
 | false =>
  refine wpIn_region ?_;have:=tC hT hE ops.toList 0 (fun j=>by simp) h g C0 M0 w0 a w hs ro n (fun e' a' w'=>e'=Ex.normal.toExit∧Sim P C0 M0 w0 Ag a' w') (fun a' w' h'=>⟨rfl,h'⟩)
  simpa using this
 | true =>
  obtain ⟨_,s1,h1,k1⟩:=aD h;obtain ⟨e1,rfl⟩:=aE h1;obtain ⟨r,s2,h2,k2⟩:=aD k1;obtain ⟨_,s3,h3,k3⟩:=aD k2;obtain ⟨e3,rfl⟩:=aE h3;obtain ⟨rfl,rfl⟩:=aH k3;obtain ⟨hB,_⟩:=bD e1;obtain ⟨hA,_⟩:=bD e3;obtain ⟨os,hfts,hlex⟩:=pG ops.toList _ (fts:=r.1) (fin:=r.2) h2 g
  replace hB:=vY hB
  unfold Region.lexB at hB
  rw [Bg] at hB
  have hlen:os.length=ops.toList.length:=by
   have:∀ {l:List Oper} {id:Nat} {st:St} {os:List uE} {fin:St},aJe P T E ops.toList id l st os fin→os.length=l.length:=by
    intro l
    induction l with
    | nil=>intro id st os fin h;cases h;rfl
    | cons o l ih=>intro id st os fin h;cases h with | cons _ _ _ _ q os _ h hr=>simp [ih hr]
   exact this hlex
  have key:nD P T E ops.toList st.m.length (fun k=>os.getD k (.any,[],none)) r.2 ops.toList.length (Array.replicate ops.size false) st:=by
   refine nD.lex ops.toList 0 _ st os (fun j=>by simp) (fun j q hj=>by simp [Bj,hj]) (fun j hj=>absurd hj (aOi _)) (fun j oj hj hl => ?_) (fun i j _ hij hj => ?_) (by simpa using hB.2) (by simpa [ido] using hlex)
   ·exfalso
    rcases Nat.lt_or_ge j ops.size with h' | h'
    ·simp [h'] at hl
    ·simp [Nat.not_lt.2 h'] at hl
   have Dm:j<os.length:=by
    rw [hlen];obtain ⟨o,ho⟩:=Option.isSome_iff_exists.1 hj;exact (A2.1 ho).1
   have:=lK r.1 0 hA i j (zO os[i]) (zO os[j]) hij (by rw [hfts,B6,Ap (by omega)];rfl) (by rw [hfts,B6,Ap Dm];rfl)
   rw [fE,fE] at this
   simp only [Bj,Ap Dm,Ap (show i<os.length by omega),Option.getD_some,Array.toArray_toList]
   exact this
  refine wpIn_region_any hm ?_;have:=nD.sound hT hE (C0:=C0) (M0:=M0) (w0:=w0) (ro:=ro) (n:=n) (Q:=fun e' a' w'=>e'=Ex.normal.toExit∧Sim P C0 M0 w0 r.2 a' w') (fun a' w' h'=>⟨rfl,h'⟩) _ _ _ a _ key (hs.drawn (w.drawn+1))
  simpa using this


noncomputable def bFu(c:Code)(st:St):Ask (Ex × St):=match c with
 | .region _ ops d=>do
  let Ag ← aJd Tp tT EO ops d st
  pure (.normal,Ag)
 | _=>fail
theorem eB.fin{k:Nat}{c:Code}{st Ag:St}{e:Ex}{g:Gh}{o:List OI}{l:List Prop}(h:yP k g (bFu c st (asg o))=some (e,Ag,l,[]))(gd:aW (out l)):eB Tp k c st e Ag:=by
 unfold yP at h
 split at h
 ·rename_i e1 st1 s hr
  split at h
  ·rename_i st2 hg
   simp only [Option.some.injEq,Prod.mk.injEq] at h
   obtain ⟨rfl,rfl,rfl,hs⟩:=h;unfold bFu at hr
   split at hr
   ·rename_i id ops d
    obtain ⟨R6,s1,h1,k1⟩:=aD hr;obtain ⟨he,rfl⟩:=aH k1;cases he;intro C0 M0 w0 a w hk hsm ro n;exact wpIn_mono (bFt (k:=k) aEz aEy mixed h1 (fun p hp=>gd p hp) C0 M0 w0 a w hk hsm ro n) (fun _ _ _ hq=>⟨hq.1,dU hk hg hq.2⟩)
   ·exact (aQ hr).elim
  ·cases h
 ·cases h
theorem eB.fi{k:Nat}{c:Code}{st Ag:St}{e:Ex}(g:Gh)(o:List OI){l:List Prop}(gd:aW (out l))(h:yP k g (bFu c st (asg o))=some (e,Ag,l,[]):=by kernel_rfl):eB Tp k c st e Ag:=eB.fin h gd
end KV
end Go.Proofs
end
section
namespace Go.Proofs
open Go.RowKit
namespace KV
open Tryz
variable {P:Program} {n:Nat}
def aFm{α:Type}(F:Fence)(n:Nat)(P:Program)(g:Nat)(lb:Array Value)(encs:α→Array Value)(R:α→World→World→Prop)(Kp:World→World→Prop)(S Sp:List α→Prop)(N:Nat)(w:World):Prop :=
 ∀ (l:Nat) (J Jx:List α→World→Prop) (W:World),Below w.heap.size w W→AbidesFrom W.heap.size J→AbidesFrom W.heap.size Jx →
  (∀ pre x W0 W1,J pre W0→W0.grownBy W1 none→R x W0 W1→pre.length<N→YieldAt F (n-1) P l (encs x) W1 fun e W' =>
   (e = .returned (.bool true)∧J (pre++[x]) W'∧Kp W0 W')∨(e = .returned (.bool false)∧Jx (pre++[x]) W')) →
  J [] W →
  CallsIn F n P g (#[.func (.yield l) #[] #[]]++lb) W fun e W'=>(∃ v,e = .returned v)∧((∃ xs,S xs∧J xs W')∨(∃ pre,Sp pre∧Jx pre W'))

def bFy{α:Type}(B:Nat)(Kp:World→World→Prop)(I:List α→World→Prop)(Ix:Code→List α→World→Prop)(xs:List α)(V W:World):Exit→Act→World→Prop
 | .normal,_,W'=>KeepsFrom B W W'∧Kp V W'∧I xs W'
 | .ret,_,W'=>KeepsFrom B W W'∧Ix .ret xs W'
 | .exit id,_,W'=>KeepsFrom B W W'∧Ix (.exit id) xs W'
 | .goto t,_,W'=>KeepsFrom B W W'∧Ix (.goto t) xs W'
 | .panic _,_,_=>False
 | .outgrown,_,_=>False

theorem sF{α:Type}{F:Fence}{g:Operand}{ps:Array Tmp}{assign body:Code}{Q:Exit→Act→World→Prop}{a:Act}{w:World}
  (hro:F.round=none) (h1:1≤n) {gf:Nat} {lb:Array Value} (hg:a.eval g = .func (.func gf) #[] lb) (hFg:F.fn gf) (eg:∀ args w,(callFunc gf args).run P w = .ok (.enter gf args) w)
  {encs:α→Array Value} {R:α→World→World→Prop} {Kp:World→World→Prop} {S Sp:List α→Prop} {N:Nat} {w0:World} (hseq:aFm F (n-1) P gf lb encs R Kp S Sp N w0)
  (hKt:∀ {A B C:World},Kp A B→Kp B C→Kp A C) (hKb:∀ (W:World) (l:Nat) (o o':Obj),w.heap.size≤l→W.heap[l]? = some o→o.isCells=false→o.isWalk=false→Kp W (W.putObj l o')) (Nk:Below w0.heap.size w0 w) (hps:∀ x,(encs x).size=ps.size)
  (I:List α→World→Prop) (Ix:Code→List α→World→Prop) (hI:OwnFrom w.heap.size I) (hIx:∀ c,OwnFrom w.heap.size (Ix c)) (h0:I [] w) (Ax:List α→α→World→Act→World→Prop) (hAx:∀ pre x V a',OwnFrom w.heap.size (fun (_:Unit) W=>Ax pre x V a' W))
  (hassign:∀ (l:Nat) (pre:List α) (x:α) (V W:World) (K:Act→World→Prop),I pre V→V.grownBy W none→R x V W→(∀ a' W',KeepsFrom w.heap.size W W'→Ax pre x V a' W'→K a' W') →
   assign.wpIn (F.inRound l) (n-1-1) P (Exit.then K (fun _ _ _=>False)) { tmps:=(ps.zip (encs x)).foldl (fun t (p,v)=>t.setIfInBounds p v) a.tmps,defers:=[] } W)
  (hbody:∀ (l:Nat) (pre:List α) (x:α) (a':Act) (V W:World),w.heap.size≤l→(∃ r,W.heap[l]? = some (.loop r))→Ax pre x V a' W→pre.length<N→body.wpIn (F.inRound l) (n-1-1) P (bFy w.heap.size Kp I Ix (pre++[x]) V W) a' W)
  (hdone:∀ (D:Nat) (xs:List α) (W:World),w.heap.size≤D→S xs→I xs W→W.heap[D]? = some (.deferred (some []))→Q .normal { a with defers:={ target := .collected D,args := #[] }::a.defers } W)
  (hstop:∀ (D:Nat) (c:Code) (pre:List α) (W:World),w.heap.size≤D→Sp pre→Ix c pre W→W.heap[D]? = some (.deferred (some []))→c.wpIn F n P Q { a with defers:={ target := .collected D,args := #[] }::a.defers } W) :
  (Code.rangeFunc g ps assign body).wpIn F n P Q a w:=by
 refine wpIn_rangeFunc fun fn hfn => ?_
 rw [hro];obtain ⟨rc,hrc⟩:∃ rc:LoopState→Option Code→Loop,rc=fun st pe=>{ state:=st,pending:=pe,fn,tmps:=a.tmps,params:=ps,assign,body,defers:=w.heap.size }:=⟨_,rfl⟩
 obtain ⟨W1,G1⟩:∃ W1,(w.alloc (.deferred (some []))).alloc (.loop (rc .ready none))=W1:=⟨_,rfl⟩;have hsz:W1.heap.size=w.heap.size+2:=by rw [← G1];simp
 have Uh:W1.heap[w.heap.size+1]? = some (.loop (rc .ready none)):=by
  have:=World.alloc_heap_new (w.alloc (.deferred (some []))) (.loop (rc .ready none));rw [World.size_alloc] at this
  rw [← G1];exact this
 have P5:W1.heap[w.heap.size]? = some (.deferred (some [])):=by
  rw [← G1];exact (Below.heap_alloc _ _ _ (by simp)).trans (World.alloc_heap_new w _)
 have Ui:I [] W1:=by rw [← G1];exact hI.alloc _ (hI.alloc _ h0)
 have Ce:Below w0.heap.size w0 W1:=by
  rw [← G1];exact Nk.trans ((((Below.refl _ w).alloc (cP _) _).alloc (by simp) _).mono Nk.size)
 let Bk (st:LoopState) (pe:Option Code) (W:World):Prop:=W.heap[w.heap.size+1]? = some (.loop (rc st pe))∧W.heap[w.heap.size]? = some (.deferred (some []))
 have bkKeep:∀ {st:LoopState} {pe:Option Code} {A B:World} {row:Option Nat},Bk st pe A→A.grownBy B row→(∀ r,row=some r→∃ o:Obj,A.heap[r]? = some o∧o.isWalk=true)→Bk st pe B:=fun hs Fw hr =>
  ⟨(grownBy_keeps Fw hr hs.1 rfl).trans hs.1,(grownBy_keeps Fw hr hs.2 rfl).trans hs.2⟩
 have walkOwn:∀ {A:World} {row:Option Nat},(∀ r,row=some r→W1.heap.size≤r∧∃ o:Obj,A.heap[r]? = some o∧o.isWalk=true)→∀ r,row=some r→w.heap.size≤r∧∃ o:Obj,A.heap[r]? = some o∧o.isCells=false:=fun hr r e=>by
  obtain ⟨hB,o,ho,hw⟩:=hr r e;exact ⟨by omega,o,ho,Obj.not_cells_of_walk hw⟩
 refine ⟨w.heap.size+1,[{ target := .collected w.heap.size,args := #[] }],W1,{ target := .fn (.func gf) lb,args := #[.func (.yield (w.heap.size+1)) #[] #[]] },W1,gf,
  #[.func (.yield (w.heap.size+1)) #[] #[]]++lb,W1,?_,?_,?_,?_,fun _=>h1,?_⟩
 ·rw [← G1,hrc];exact run_enterLoop_outer _ _ _ _ _
 ·simp only [resolve,hg]
  simp [go_sem]
 ·intro f' R7;simp [Target.leads] at R7;subst R7;exact hFg
 ·simp [invoke,go_sem,eg]
 ·refine (hseq (w.heap.size+1) (fun pre W=>I pre W∧Bk .ready none W) (fun pre W=>∃ c,Ix c pre W∧Bk .done (some c) W) W1 Ce
   (fun s A B row hs Fw hr=>⟨hI s A B row hs.1 Fw (walkOwn hr),bkKeep hs.2 Fw fun r e=>(hr r e).2⟩)
   (fun s A B row hs Fw hr=>by
    obtain ⟨c,hc,hb⟩:=hs;exact ⟨c,hIx c s A B row hc Fw (walkOwn hr),bkKeep hb Fw fun r e=>(hr r e).2⟩)
   ?_ ⟨Ui,Uh,P5⟩).mono ?_
  ·-- a round
   rintro pre x V W ⟨hi,hbk⟩ Fw hR hlen;have hbW:=bkKeep hbk Fw (fun r e=>by cases e)
   have hlt:w.heap.size+1<W.heap.size:=(kP.1 hbW.1).1;have hy:=run_yield (P:=P) (args:=encs x) hbW.1 (by rw [hrc];exact hps x)
   rw [hrc] at hy
   refine ⟨fn,_,assign,body,hy,roundIn_of_wpIn hfn (hassign _ pre x V W _ hi Fw hR ?_)⟩;clear hy;intro a' Wa hkf hax;have hl:=hkf.same _ _ (by omega) hbW.1 rfl
   have hk:=hkf.same _ _ (cP _) hbW.2 rfl;have hlta:w.heap.size+1<Wa.heap.size:=(kP.1 hl).1;refine ⟨_,run_beginRound hl (by rw [hrc]),?_⟩
   have Bu:(Wa.putObj (w.heap.size+1) (.loop { rc .ready none with state := .busy })).heap[w.heap.size+1]? = some (.loop { rc .ready none with state := .busy }):=World.putObj_heap_same hlta
   have E7:(Wa.putObj (w.heap.size+1) (.loop { rc .ready none with state := .busy })).heap[w.heap.size]? = some (.deferred (some [])):=(World.putObj_heap_other (by omega)).trans hk
   refine wpIn_mono (hbody _ pre x a' V _ (by omega) ⟨_,Bu⟩ ((hAx pre x V a').putObj (s:=()) _ hax (by omega) hl rfl) hlen) ?_
   have fin:∀ (jump:Option Code) (W3:World),KeepsFrom w.heap.size (Wa.putObj (w.heap.size+1) (.loop { rc .ready none with state := .busy })) W3 →
     (Instr.endRound (w.heap.size+1) jump).run P W3 = .ok (.bool jump.isNone) (W3.putObj (w.heap.size+1) (.loop (rc (if jump.isNone then .ready else .done) jump))) ∧
     W3.heap[w.heap.size+1]? = some (.loop { rc .ready none with state := .busy })∧Bk (if jump.isNone then .ready else .done) jump (W3.putObj (w.heap.size+1) (.loop (rc (if jump.isNone then .ready else .done) jump))):=fun jump W3 H2=>by
    have Bl:=H2.same _ _ (by omega) Bu rfl
    have hrun:=run_endRound (P:=P) jump Bl;rw [hrc] at hrun
    refine ⟨by rw [hrc];exact hrun,Bl,?_⟩
    exact ⟨World.putObj_heap_same (kP.1 Bl).1,(World.putObj_heap_other (by omega)).trans (H2.same _ _ (cP _) E7 rfl)⟩
   rintro e a3 W3 hp;cases e with
   | normal =>
    obtain ⟨H2,Qa,Ii⟩:=hp;obtain ⟨hr,Bl,Kj⟩:=fin none W3 H2;exact ⟨_,_,hr,.inl ⟨rfl,⟨hI.putObj _ Ii (by omega) Bl rfl,Kj⟩,hKt Qa (hKb _ _ _ _ (by omega) Bl rfl rfl)⟩⟩
   | ret =>
    obtain ⟨H2,Ii⟩:=hp;obtain ⟨hr,Bl,Kj⟩:=fin (some .ret) W3 H2;exact ⟨_,_,hr,.inr ⟨rfl,.ret,(hIx _).putObj _ Ii (by omega) Bl rfl,Kj⟩⟩
   | exit id =>
    obtain ⟨H2,Ii⟩:=hp;obtain ⟨hr,Bl,Kj⟩:=fin (some (.exit id)) W3 H2;exact ⟨_,_,hr,.inr ⟨rfl,.exit id,(hIx _).putObj _ Ii (by omega) Bl rfl,Kj⟩⟩
   | goto t =>
    obtain ⟨H2,Ii⟩:=hp;obtain ⟨hr,Bl,Kj⟩:=fin (some (.goto t)) W3 H2;exact ⟨_,_,hr,.inr ⟨rfl,.goto t,(hIx _).putObj _ Ii (by omega) Bl rfl,Kj⟩⟩
   | panic ch=>exact hp.elim
   | outgrown=>exact hp.elim
  ·-- behind the iterator
   rintro e W2 ⟨⟨v,rfl⟩,(⟨xs,hS,hi,hb⟩ | ⟨pre,hSp,c,hi,hb⟩)⟩
   ·have:=run_endLoop (P:=P) hb.1 (by rw [hrc];simp)
    rw [hrc] at this
    exact ⟨none,_,this,hdone _ xs _ (cP _) hS (hI.putObj _ hi (by omega) hb.1 rfl) ((World.putObj_heap_other (by omega)).trans hb.2)⟩
   ·have:=run_endLoop (P:=P) hb.1 (by rw [hrc];simp)
    rw [hrc] at this
    exact ⟨some c,_,this,hstop _ c pre _ (cP _) hSp ((hIx c).putObj _ hi (by omega) hb.1 rfl) ((World.putObj_heap_other (by omega)).trans hb.2)⟩
end KV
end Go.Proofs
end
section
namespace Go.Proofs
open Go.RowKit
namespace KV
open Tryz
variable {P:Program} {C C0:Cx} {M M0:Mem} {w w0:World}
abbrev kS(l:List Int):AO := .row 3 l.length (l.map aA)
def bFv(P:Program)(x:List Int × Value)(W0 W1:World):Prop:=x.1.length≤1000∧∃ C1:Cx,aO P C1 [some (kS x.1)] W1∧Rep C1 [some (kS x.1)] W1 (.own 0) x.2∧∀ b,C1.ι 0=some b→W0.heap.size≤b

theorem nQ{W0 W1:World}(hg:W0.grownBy W1 none)(b:Nat)(hb:b<W0.heap.size):W1.heap[b]? = W0.heap[b]? := hg.block b hb (fun e=>by cases e)
theorem bFw{M':Mem}{W0 W1:World}{x:List Int × Value}(hM:aO P C M' W0)(hg:W0.grownBy W1 none)(hR:bFv P x W0 W1) :
  ∃ C2,aO P C2 (M'++[some (kS x.1)]) W1∧Fr C M' W0 C2 (M'++[some (kS x.1)]) W1∧Rep C2 (M'++[some (kS x.1)]) W1 (.own M'.length) x.2:=by
 obtain ⟨_,C1,h1,h2,h3⟩:=hR
 let C2:Cx:={ ι:=fun i=>if i=M'.length then C1.ι 0 else C.ι i,κ:=fun i=>if i=M'.length then C1.κ 0 else C.κ i,F:=C.F }
 have old:∀ (i:Nat) (o:AO),M'[i]? = some (some o)→i<M'.length∧(M'++[some (kS x.1)])[i]? = some (some o)∧C2.ι i=C.ι i∧C2.κ i=C.κ i:=fun i o h=>by
  have hl:=(A2.1 h).1;refine ⟨hl,by rw [aAy hl];exact h,if_neg (by omega),if_neg (by omega)⟩
 have cls:∀ (i:Nat) (o:AO),(M'++[some (kS x.1)])[i]? = some (some o)→M'[i]? = some (some o)∨(i=M'.length∧o=kS x.1):=fun i o h=>by
  rcases Nat.lt_or_ge i M'.length with hl | hl
  ·rw [aAy hl] at h;exact .inl h
  ·rw [aAx hl] at h
   cases hd:i-M'.length with
   | zero =>
    rw [hd] at h
    simp at h
    exact .inr ⟨by omega,h.symm⟩
   | succ j=>rw [hd] at h;simp at h
 have new:C2.ι M'.length=C1.ι 0∧C2.κ M'.length=C1.κ 0:=⟨if_pos rfl,if_pos rfl⟩;have f:Fr C M' W0 C2 (M'++[some (kS x.1)]) W1:=by
  refine ⟨hg.os,hg.tape,hg.output,hg.size,fun b hb _=>nQ hg b hb,fun i o h => ?_,fun i o h ty n cs hm => ?_,fun i o h o' h' hl => ?_,fun i o b h hl hb => ?_,fun b h=>h,fun b h => .inl h⟩
  ·obtain ⟨_,q1,q2,q3⟩:=old i o h
   exact ⟨⟨o,q1⟩,q2,q3⟩
  ·rw [(old i o h).2.1] at hm;cases hm;exact ⟨cs,h⟩
  ·rw [(old i o h).2.1] at h';cases h';exact hl
  ·rcases cls i o h with q | ⟨rfl,rfl⟩
   ·rw [(old i o q).2.2.1] at hb;exact .inr ⟨i,o,q,hl,hb⟩
   ·rw [new.1] at hb;exact .inl (h3 b hb)
 have hL:=hM.le f;have Ub:=h1.row 0 3 x.1.length (x.1.map aA) rfl;refine ⟨C2,⟨fun i ty n cs hm => ?_,fun i ty cs hm => ?_,fun i es cl hm => ?_,fun i i' o1 o2 b q1 l1 q2 l2 e1 e2 => ?_,fun i o b hm hl hb => ?_,fun b hb=>B5 (hM.Fs b hb) hg.size,fun i o b hm hl hb => ?_⟩,f,?_⟩
 ·rcases cls i _ hm with q | ⟨rfl,q⟩
  ·obtain ⟨hlt,_,q2,q3⟩:=old i _ q
   rw [q2,q3]
   rcases hM.row _ _ _ _ q with h4 | ⟨b,arr,inf,p0,p1,p2,p3,p4,p5,p6,p7,p8⟩
   ·exact .inl h4
   ·exact .inr ⟨b,arr,inf,p0,by rw [nQ hg b (hM.lt i _ b q rfl p0)];exact p1,p2,p3,p4,p5,p6,fun j hj=>(p7 j hj).mono hL.F hL.fz,p8⟩
  ·cases q
   rw [new.1,new.2]
   rcases Ub with h4 | ⟨b,arr,inf,p0,p1,p2,p3,p4,p5,p6,p7,p8⟩
   ·exact .inl h4
   ·refine .inr ⟨b,arr,inf,p0,p1,p2,p3,p4,p5,p6,fun j hj => ?_,p8⟩
    have:=p7 j hj;revert this;rw [kD];generalize arr.getD j undef=u;intro h;cases h;exact .v _
 ·rcases cls i _ hm with q | ⟨rfl,q⟩
  ·obtain ⟨b,arr,p0,p1,p2,p3,p4⟩:=hM.box _ _ _ q
   exact ⟨b,arr,by rw [(old i _ q).2.2.1];exact p0,by rw [nQ hg b (hM.lt i _ b q rfl p0)];exact p1,p2,fun j hj=>(p3 j hj).mono hL,p4⟩
  ·cases q
 ·rcases cls i _ hm with q | ⟨rfl,q⟩
  ·obtain ⟨b,arr,p0,p1,p2,p3⟩:=hM.mp _ _ _ q
   refine ⟨b,arr,by rw [(old i _ q).2.2.1];exact p0,by rw [nQ hg b (hM.lt i _ b q rfl p0)];exact p1,p2,fun j hj => ?_⟩
   obtain ⟨en,r1,r2,r3,r4⟩:=p3 j hj;exact ⟨en,r1,r2,r3,r4.mono hL.F hL.fz⟩
  ·cases q
 ·rcases cls i _ q1 with c1 | ⟨rfl,rfl⟩ <;> rcases cls i' _ q2 with c2 | ⟨rfl,rfl⟩
  ·rw [(old i _ c1).2.2.1] at e1
   rw [(old i' _ c2).2.2.1] at e2
   exact hM.inj _ _ _ _ _ c1 l1 c2 l2 e1 e2
  ·rw [(old i _ c1).2.2.1] at e1
   rw [new.1] at e2
   have:=hM.lt _ _ _ c1 l1 e1;have:=h3 b e2;omega
  ·rw [new.1] at e1
   rw [(old i' _ c2).2.2.1] at e2
   have:=hM.lt _ _ _ c2 l2 e2;have:=h3 b e1;omega
  ·rfl
 ·rcases cls i _ hm with c1 | ⟨rfl,rfl⟩
  ·rw [(old i _ c1).2.2.1] at hb
   exact hM.nF _ _ _ c1 hl hb
  ·rw [new.1] at hb
   intro hF;have:=hM.Fs b hF;have:=h3 b hb;omega
 ·rcases cls i _ hm with c1 | ⟨rfl,rfl⟩
  ·rw [(old i _ c1).2.2.1] at hb
   exact B5 (hM.lt _ _ _ c1 hl hb) hg.size
  ·rw [new.1] at hb
   exact h1.lt 0 _ b rfl rfl hb
 ·cases h2 with
  | own _ _ q0 qa q =>
   refine .own _ _ q0 ⟨kS x.1,by rw [aAx (cP _),aWo];rfl⟩ fun ty n cs hm => ?_
   rw [aAx (cP _),aWo] at hm
   rw [new.1,new.2];exact q ty n cs hm

theorem oN:∀ {m m':Mem},nmM m=true→nmM m'=true→nmM (m++m')=true
 | [],_,_,h=>h
 | none::r,m',h,h'=>by
  have:nmM (r++m')=true:=oN (m:=r) h h';exact this
 | some x::r,m',h,h'=>by
  cases x with
  | row ty n cs =>
   simp only [nmM,Bg] at h
   show (iA cs && nmM (r++m'))=true;rw [h.1,oN h.2 h'];rfl
  | box ty l =>
   simp only [nmM,Bg] at h
   show (nmL l && nmM (r++m'))=true;rw [h.1,oN h.2 h'];rfl
  | mp=>exact oN (m:=r) h h'
  | pk=>exact oN (m:=r) h h'
  | dead=>exact oN (m:=r) h h'
theorem jM:∀ {m m':Mem},eQ m=true→eQ m'=true→eQ (m++m')=true
 | [],_,_,h=>h
 | none::r,m',h,h'=>jM (m:=r) h h'
 | some x::r,m',h,h'=>by
  cases x with
  | mp=>simp [eQ] at h
  | pk=>simp [eQ] at h
  | row=>exact jM (m:=r) h h'
  | box=>exact jM (m:=r) h h'
  | dead=>exact jM (m:=r) h h'

theorem bFx{M':Mem}{W W':World}{C1:Cx}{row:Option Nat}(hn:xZ M')(hq:nmM M'=true)(hF:∀ b,C.F b→b<w.heap.size)(h1:aO P C1 M' W)(h2:Fr C M w C1 M' W)(hg:W.grownBy W' row)
  (hr:∀ r,row=some r→w.heap.size≤r∧∃ o:Obj,W.heap[r]? = some o∧o.isCells=false):∃ C',C'.ι=C1.ι∧C'.κ=C1.κ∧aO P C' M' W'∧Fr C M w C' M' W':=by
 let C':Cx:=⟨C1.ι,C1.κ,fun b=>C1.F b∧(b<w.heap.size∨kJ W b),[]⟩
 have hM:aO P C' M' W:=by
  refine ⟨fun i ty n cs hm => ?_,fun i ty cs hm => ?_,fun i es cl hm=>absurd hm (hn.1 _ _ _),h1.inj,fun i o b ho hl hb hf=>h1.nF i o b ho hl hb hf.1,fun b hb=>h1.Fs b hb.1,h1.lt⟩
  ·rcases h1.row _ _ _ _ hm with h4 | ⟨b,arr,inf,q0,q1,q2,q3,q4,q5,q6,q7,q8⟩
   ·exact .inl h4
   ·exact .inr ⟨b,arr,inf,q0,q1,q2,q3,q4,q5,q6,fun j hj=>(q7 j hj).shrink (fun b hb hs=>⟨hb,.inr hs⟩) (kQ ((aBn hq).1 _ _ _ _ hm) j hj),q8⟩
  ·obtain ⟨b,arr,q0,q1,q2,q3,q4⟩:=h1.box _ _ _ hm
   exact ⟨b,arr,q0,q1,q2,fun j hj=>(q3 j hj).shrink (fun b hb hs=>⟨hb,.inr hs⟩) (tP ((aBn hq).2 _ _ _ hm) j hj),q4⟩
 have f:Fr C M w C' M' W:=⟨h2.os,h2.tape,h2.out,h2.size,h2.keep,h2.ids,h2.row,h2.liv,h2.new,fun b hb=>⟨h2.F1 b hb,.inl (hF b hb)⟩,fun b hb=>h2.F2 b hb.1⟩
 have hS:∀ b,C'.F b→b<w.heap.size∨kJ W b:=fun b hb=>hb.2
 have hsame:∀ b,b<W.heap.size→(b<w.heap.size∨kJ W b)→W'.heap[b]? = W.heap[b]? := fun b hb hd=>hg.block b hb (fun e=>by
  obtain ⟨q1,o,q2,q3⟩:=hr b e.symm
  rcases hd with hd | hd
  ·omega
  ·exact iJ q2 q3 hd)
 have hFz:∀ b,C'.F b→W'.heap[b]? = W.heap[b]? := fun b hb=>hsame b (hM.Fs b hb) (hS b hb)
 have hL:Le C' C' M' M' W W':=⟨fun _ o h=>⟨o,h⟩,fun _ _ _ _ _ cs h=>⟨cs,h⟩,fun _ o h o' h' hl=>by rw [h] at h';cases h';exact ⟨hl,rfl,rfl⟩,fun _ h=>h,hFz⟩
 refine ⟨C',rfl,rfl,⟨fun i ty n cs hm => ?_,fun i ty cs hm => ?_,fun i es cl hm=>absurd hm (hn.1 _ _ _),hM.inj,hM.nF,fun b hb=>B5 (hM.Fs b hb) hg.size,fun i o b ho hl hb=>B5 (hM.lt i o b ho hl hb) hg.size⟩,
  ⟨hg.os.trans f.os,hg.tape.trans f.tape,hg.output.trans f.out,fL f.size hg.size,fun b hb hno=>(hsame b (B5 hb f.size) (.inl hb)).trans (f.keep b hb hno),f.ids,f.row,f.liv,f.new,f.F1,f.F2⟩⟩
 ·rcases hM.row _ _ _ _ hm with h4 | ⟨b,arr,inf,q0,q1,q2,q3,q4,q5,q6,q7,q8⟩
  ·exact .inl h4
  ·exact .inr ⟨b,arr,inf,q0,(hsame b (kP.1 q1).1 (.inr (eI q1))).trans q1,q2,q3,q4,q5,q6,fun j hj=>(q7 j hj).mono hL.F hL.fz,q8⟩
 ·obtain ⟨b,arr,q0,q1,q2,q3,q4⟩:=hM.box _ _ _ hm
  exact ⟨b,arr,q0,(hsame b (kP.1 q1).1 (.inr (eI q1))).trans q1,q2,fun j hj=>(q3 j hj).mono hL,q4⟩
theorem aQf{C1 C':Cx}{M':Mem}{W W':World}{i:Nat}{u:Value}(h:Rep C1 M' W (.own i) u)(e1:C'.ι=C1.ι)(e2:C'.κ=C1.κ):Rep C' M' W' (.own i) u:=by
 cases h with
 | own _ _ q0 qa q=>exact .own _ _ q0 qa fun ty n cs hm=>by rw [e1,e2];exact q ty n cs hm

def bOv(P:Program)(g:AV)(gf N:Nat)(xs:Lqq):Prop:=∀ (C:Cx) (M:Mem) (w:World) (u:Value),Rep C M w g u→(∀ b,C.F b→b<w.heap.size) →
 ∃ lb,u = .func (.func gf) #[] lb∧aFm Fence.wide 2 P gf lb (fun x:List Int × Value => #[x.2]) (bFv P) (KpG C.F) (fun ys=>ys.map (·.1)=xs) (fun ys=>ys.map (·.1) <+: xs) N w

def rfO(st:St)(p1 d:Nat)(l:List Int):St:=⟨put (put st.t (some p1) (.own st.m.length)) (some d) (.own st.m.length),st.m++[some (kS l)]⟩

section
variable {k kb gi gf p1 d id ty:Nat} {pos:String} {body:Code} {g:AV} {N:Nat} {xs:Lqq}
theorem aFl(Fl:St)(S:Lqq→St)(E ER:Lqq→List Int→St)(T:List AV)(MR:Mem)(p:Lqq→List Int→Bool){cc:Code}(hcc:cc = .rangeFunc (.tmp gi) #[p1] (.region id #[{ dst:=some d,op := .assign (.tmp p1),type:=ty,pos:=pos,after := #[],guard:=none }] false) body)
  (Uc:Fl.t=T) (hT:∀ pre,(S pre).t=T) (hg:T[gi]? = some g) (hit:bOv P g gf N xs) (eg:∀ args w,(callFunc gf args).run P w = .ok (.enter gf args) w)
  (hmp:∀ pre,eQ (S pre).m=true) (hq:∀ pre,nmM (S pre).m=true) (hmE:∀ pre l,eQ (E pre l).m=true) (hmER:∀ pre l,eQ (ER pre l).m=true) (hmR:eQ MR=true) (hqR:nmM MR=true) (hlen:∀ pre,(S pre).m.length<kb) (hnrf:nrf body=true)
  (hp:∀ (x:AV),(put T (some p1) x)[p1]? = some x) {kk:Nat} {g0 g1 gR:Gh} (hkk:Fl.m.length≤kk) (Ud:eQ Fl.m=true) (Ue:gh kk g0 Fl=some (S [])) (hgh:∀ pre l,gh kk g1 (E pre l)=some ⟨(E pre l).t,(S (pre++[l])).m⟩) (hgR:∀ pre l,p pre l=true→gh kk gR (ER pre l)=some ⟨(ER pre l).t,MR⟩)
  (hbody:∀ pre l,pre.length<N→l.length≤1000→(p pre l=false→aC P kb body (rfO (S pre) p1 d l) .normal (E pre l))∧(p pre l=true→aC P kb body (rfO (S pre) p1 d l) .ret (ER pre l))) :
  ((∀ pre l,pre++[l] <+: xs→p pre l=false)→aC P k cc Fl .normal (S xs)) ∧
  ((∃ pre l,pre++[l] <+: xs∧p pre l=true)→aC P k cc Fl .ret ⟨T,MR⟩):=by
 have Ni:∀ pre,xZ (S pre).m:=fun pre=>dM (hmp pre)
 have Kf:xZ MR:=dM hmR;have main:∀ (Qf:Ex→St→Prop),((∀ pre l,pre++[l] <+: xs→p pre l=false)→Qf .normal (S xs))→((∃ pre l,pre++[l] <+: xs∧p pre l=true)→Qf .ret ⟨T,MR⟩) →
   ∀ (C0:Cx) (M0:Mem) (w0:World) (a:Act) (w:World),M0.length≤k→Sim P C0 M0 w0 Fl a w→∀ (ro:Option Nat),kA ro cc→∀ (n:Nat),cc.wpIn (Fen ro) n P (fun e' a' w'=>∃ e Ag,Qf e Ag∧e'=e.toExit∧Sim P C0 M0 w0 Ag a' w') a w:=by
  intro Qf Uf Ug C0 M0 w0 a w hk hs ro hro n;subst hcc;have Kg:ro=none:=hro.resolve_right (by simp [nrf])
  subst Kg;refine aBo (n:=3) ?_;obtain ⟨C,hSl,hM,hF,hD⟩:=hs;have hini:aYe P C Fl.m w (S []).m w:=by
   obtain ⟨C1,_,h1,h2,_⟩:=dU hkk Ue (show Sim P (C.with []) Fl.m w Fl { a with defers:=[] } w from ⟨C,hSl,hM,(Fr.refl _ _ _).based [],.nil rfl (dM Ud).2⟩)
   exact ⟨C1,h1,h2.unbased⟩
  rw [Uc] at hSl
  obtain ⟨lb,hu,hseq⟩:=hit C Fl.m w _ (hSl.at hg) hM.Fs
  have actOf:∀ x:List Int × Value,Act:=fun x=>({ tmps:=a.tmps.setIfInBounds p1 x.2,defers:=[] }:Act).put (some d) (({ tmps:=a.tmps.setIfInBounds p1 x.2,defers:=[] }:Act).eval (.tmp p1))
  refine sF (F:=Fen none) (n:=3) rfl (by omega) (gf:=gf) (lb:=lb) hu trivial eg hseq (fun h k=>h.trans k)
   (fun W l o o' hl h1 h2 h3=>⟨by simp,fun b hb=>(grownBy_putObj' W l o').block b (B5 (hM.Fs b hb) (fL hl (Nat.le_of_lt (kP.1 h1).1))) (fun e=>by cases e;have:=hM.Fs _ hb;omega)⟩)
   (Below.refl _ _) (fun _=>rfl)
   (fun pre W=>aYe P C Fl.m w (S (pre.map (·.1))).m W∧∀ q l,q++[l] <+: pre.map (·.1)→p q l=false)
   (fun c pre W=>c = .ret∧aYe P C Fl.m w MR W∧∃ q l,q++[l]=pre.map (·.1)∧p q l=true)
   (fun pre X Y row hs hg hr=>⟨hs.1.own (Ni _) (hq _) hM.Fs hg hr,hs.2⟩) (fun c pre X Y row hs hg hr=>⟨hs.1,hs.2.1.own Kf hqR hM.Fs hg hr,hs.2.2⟩)
   ⟨hini,fun q l h=>by simp at h⟩
   (fun pre x V a' W=>a'=({ tmps:=a.tmps.setIfInBounds p1 x.2,defers:=[] }:Act).put (some d) (({ tmps:=a.tmps.setIfInBounds p1 x.2,defers:=[] }:Act).eval (.tmp p1)) ∧
    (∃ C2,aO P C2 ((S (pre.map (·.1))).m++[some (kS x.1)]) W∧Fr C Fl.m w C2 ((S (pre.map (·.1))).m++[some (kS x.1)]) W∧Rep C2 ((S (pre.map (·.1))).m++[some (kS x.1)]) W (.own (S (pre.map (·.1))).m.length) x.2) ∧
    KpG C.F V W∧x.1.length≤1000∧∀ q l,q++[l] <+: pre.map (·.1)→p q l=false)
   (fun pre x V a' s X Y row hs hg hr=>by
    obtain ⟨e1,⟨C2,q1,q2,q3⟩,e3,e4,e5⟩:=hs;have hnr:nmM [some (kS x.1)]=true:=by
     show (iA (x.1.map aA) && nmM [])=true;rw [aBm aA (fun _=>rfl)];rfl
    obtain ⟨C',i1,i2,i3,i4⟩:=bFx (dM (jM (hmp _) (by rfl))) (oN (hq _) hnr) hM.Fs q1 q2 hg hr
    refine ⟨e1,⟨C',i3,i4,aQf q3 i1 i2⟩,⟨fL e3.size hg.size,fun b hb => ?_⟩,e4,e5⟩
    refine (hg.block b (B5 (hM.Fs b hb) q2.size) (fun e => ?_)).trans (e3.same b hb)
    have:=(hr b e.symm).1;have:=hM.Fs b hb;omega)
   ?assign ?body ?done ?stop
  case assign =>
   intro l pre x V W K hI Fw hR hK;obtain ⟨⟨C',E1,N6⟩,hpre⟩:=hI;obtain ⟨C2,j1,j2,j3⟩:=bFw E1 Fw hR;have hz:(#[p1].zip #[x.2]).foldl (fun t (y:Nat × Value)=>t.setIfInBounds y.1 y.2) a.tmps=a.tmps.setIfInBounds p1 x.2:=by simp
   rw [hz];refine wpIn_region_lit (wpListIn_plain rfl fun K' P8 => ?_)
   unfold Oper.wpIn;refine ⟨fun f _=>trivial,?_⟩
   rw [Oper.semAt_plain _ _ _ (by intro c Fh;cases Fh)]
   simp only [execOp,Sem.run_pure];exact P8 _ _ (wpListIn_nil (hK _ _ (KeepsFrom.refl _ _) ⟨rfl,⟨C2,j1,N6.trans j2,j3⟩,⟨Fw.size,fun b hb=>nQ Fw b (B5 (hM.Fs b hb) N6.size)⟩,hR.1,hpre⟩))
  case body =>
   rintro l pre x a' V W hl _ ⟨rfl,⟨C2,Gw,E0,D8⟩,Nc,hxl,hpre⟩ hlt;have hpl:(pre.map (·.1)).length<N:=by simpa using hlt
   have hSW:dO C2 ((S (pre.map (·.1))).m++[some (kS x.1)]) W T a.tmps:=hSl.le (hM.le E0)
   have s1:dO C2 ((S (pre.map (·.1))).m++[some (kS x.1)]) W (put T (some p1) (.own (S (pre.map (·.1))).m.length)) (({ tmps:=a.tmps,defers:=[] }:Act).put (some p1) x.2).tmps :=
    dO.put (a:={ tmps:=a.tmps,defers:=[] }) hSW D8
   have s2:dO C2 ((S (pre.map (·.1))).m++[some (kS x.1)]) W (put (put T (some p1) (.own (S (pre.map (·.1))).m.length)) (some d) (.own (S (pre.map (·.1))).m.length)) (({ tmps:=a.tmps.setIfInBounds p1 x.2,defers:=[] }:Act).put (some d) (({ tmps:=a.tmps.setIfInBounds p1 x.2,defers:=[] }:Act).eval (.tmp p1))).tmps :=
    dO.put s1 (s1.at (hp _))
   have hnr:eQ ((S (pre.map (·.1))).m++[some (kS x.1)])=true:=jM (hmp _) (by rfl)
   have hsim:Sim P (C2.with []) ((S (pre.map (·.1))).m++[some (kS x.1)]) W (rfO (S (pre.map (·.1))) p1 d x.1) (({ tmps:=a.tmps.setIfInBounds p1 x.2,defers:=[] }:Act).put (some d) (({ tmps:=a.tmps.setIfInBounds p1 x.2,defers:=[] }:Act).eval (.tmp p1))) W:=by
    refine ⟨C2,?_,Gw,(Fr.refl _ _ _).based [],.nil rfl (dM hnr).2⟩;unfold rfO;rw [hT];exact s2
   have hkl:((S (pre.map (·.1))).m++[some (kS x.1)]).length≤kb:=by
    rw [fK];exact hlen _
   have keepO:∀ {M2:Mem} {W2:World} {C3:Cx},Fr C2 ((S (pre.map (·.1))).m++[some (kS x.1)]) W C3 M2 W2→KeepsFrom w.heap.size W W2∧KpG C.F V W2:=fun f3 =>
    ⟨⟨f3.size,fun b o _ hb ho=>(f3.keep b (kP.1 hb).1 (aHl Gw (dM hnr) hb ho)).trans hb⟩,
     Nc.trans ⟨f3.size,fun b hb=>f3.keep b (B5 (hM.Fs b hb) E0.size) (fun id o ho hl he=>Gw.nF id o b ho hl he (E0.F1 b hb))⟩⟩
   have hmapp:(pre++[x]).map (·.1)=pre.map (·.1)++[x.1]:=by simp
   cases hpx:p (pre.map (·.1)) x.1 with
   | false =>
    refine wpIn_mono ((hbody _ x.1 hpl hxl).1 hpx (C2.with []) _ W _ W hkl hsim (some l) (.inr hnrf) 1) ?_
    rintro e a2 W2 ⟨rfl,C3,H0,Fx,Gq,_⟩;have Gq:=Gq.unbased;obtain ⟨k1,k2⟩:=keepO Gq;have Hn:Sim P (C.with []) Fl.m w (E (pre.map (·.1)) x.1) { a2 with defers:=[] } W2 :=
     ⟨C3,H0,Fx,(E0.trans Gq).based [],.nil rfl (dM (hmE _ _)).2⟩
    obtain ⟨C4,_,Nj,P9,_⟩:=dU hkk (hgh _ _) Hn;refine ⟨k1,k2,⟨C4,?_,?_⟩,fun q l h => ?_⟩
    ·rw [hmapp];exact Nj
    ·rw [hmapp];exact P9.unbased
    ·rw [hmapp] at h
     rcases List.prefix_concat_iff.1 h with h | h
     ·obtain ⟨e1,e2⟩:=List.append_inj' h rfl
      cases e2;rw [e1];exact hpx
     ·exact hpre q l h
   | true =>
    have hc:=(hbody _ x.1 hpl hxl).2 hpx;refine wpIn_mono (hc (C2.with []) _ W _ W hkl hsim (some l) (.inr hnrf) 1) ?_
    rintro e a2 W2 ⟨rfl,C3,H0,Fx,Gq,_⟩;have Gq:=Gq.unbased;obtain ⟨k1,k2⟩:=keepO Gq;have Hn:Sim P (C.with []) Fl.m w (ER (pre.map (·.1)) x.1) { a2 with defers:=[] } W2 :=
     ⟨C3,H0,Fx,(E0.trans Gq).based [],.nil rfl (dM (hmER _ _)).2⟩
    obtain ⟨C4,_,Nj,P9,_⟩:=dU hkk (hgR _ _ hpx) Hn;exact ⟨k1,rfl,⟨C4,Nj,P9.unbased⟩,_,_,hmapp.symm,hpx⟩
  case done =>
   intro D ys W H3 hSx hI hDm;obtain ⟨⟨C1,h1,h2⟩,hpre⟩:=hI;rw [hSx] at h1 h2 hpre
   refine ⟨.normal,S xs,Uf hpre,rfl,?_⟩;have hnm:xZ (S xs).m:=Ni xs;obtain ⟨C',E1,f,hSo⟩:=tQ hnm (hq xs) hM.Fs h1 h2;refine ⟨C',by rw [hT];exact hSl.le (hM.le f),E1,hF.trans f,?_⟩
   obtain ⟨⟨l,e1,e2,e3⟩,hR⟩:=hD.fr hM (fun i to ti sz L h=>by have:=hnm.2 _ _ h;cases this) f
   obtain ⟨⟨l',Ih,_,Kh⟩,_⟩:=hD;have hll:l=l':=by
    have:=e1.symm.trans Ih;exact (List.map_inj_right (fun x y h=>by simpa [mark] using h)).1 this
   refine ⟨⟨D::l,by rw [e1];rfl,List.nodup_cons.2 ⟨fun hin => ?_,e2⟩,fun D' Ki => ?_⟩,hR⟩
   ·rw [hll] at hin
    have:=(kP.1 (Kh D hin).1).1;omega
   ·rcases gG.1 Ki with rfl | hin
    ·refine ⟨hDm,fL hF.size H3,fun hf => ?_⟩
     rcases hSo _ hf with h | h
     ·omega
     ·exact iJ hDm rfl h
    ·exact e3 D' hin
  case stop =>
   rintro D c pre W H3 hSp ⟨rfl,⟨C1,h1,h2⟩,q,l0,hql,hpq⟩ hDm;refine wpIn_ret ?_;refine ⟨.ret,⟨T,MR⟩,Ug ⟨q,l0,by rw [hql];exact hSp,hpq⟩,rfl,?_⟩
   obtain ⟨C',E1,f,hSo⟩:=tQ Kf hqR hM.Fs h1 h2;refine ⟨C',hSl.le (hM.le f),E1,hF.trans f,?_⟩;obtain ⟨⟨l,e1,e2,e3⟩,hR⟩:=hD.fr hM (fun i to ti sz L h=>by have:=Kf.2 _ _ h;cases this) f
   obtain ⟨⟨l',Ih,_,Kh⟩,_⟩:=hD;have hll:l=l':=by
    have:=e1.symm.trans Ih;exact (List.map_inj_right (fun x y h=>by simpa [mark] using h)).1 this
   refine ⟨⟨D::l,by rw [e1];rfl,List.nodup_cons.2 ⟨fun hin => ?_,e2⟩,fun D' Ki => ?_⟩,hR⟩
   ·rw [hll] at hin
    have:=(kP.1 (Kh D hin).1).1;omega
   ·rcases gG.1 Ki with rfl | hin
    ·refine ⟨hDm,fL hF.size H3,fun hf => ?_⟩
     rcases hSo _ hf with h | h
     ·omega
     ·exact iJ hDm rfl h
    ·exact e3 D' hin
 refine ⟨fun hall => ?_,fun hex => ?_⟩
 ·intro C0 M0 w0 a w hk hs ro hro n
  refine wpIn_mono (main (fun e Ag=>e = .normal∧Ag=S xs) (fun _=>⟨rfl,rfl⟩) (fun ⟨q,l,h1,h2⟩=>by rw [hall q l h1] at h2;cases h2) C0 M0 w0 a w hk hs ro hro n) ?_
  rintro e' a' w' ⟨e,Ag,⟨rfl,rfl⟩,h1,h2⟩;exact ⟨h1,h2⟩
 ·intro C0 M0 w0 a w hk hs ro hro n
  refine wpIn_mono (main (fun e Ag=>e = .ret∧Ag=⟨T,MR⟩) (fun hall=>by obtain ⟨q,l,h1,h2⟩:=hex;rw [hall q l h1] at h2;cases h2) (fun _=>⟨rfl,rfl⟩) C0 M0 w0 a w hk hs ro hro n) ?_
  rintro e' a' w' ⟨e,Ag,⟨rfl,rfl⟩,h1,h2⟩;exact ⟨h1,h2⟩
end
end KV
end Go.Proofs
end
section
namespace Go.Proofs
open Go.RowKit
namespace KV
open Tryz
variable {P:Program} {T:TT} {E:Env} {C C0:Cx} {M M0:Mem} {w w0:World}
def bYd(P:Program)(ops:Array Oper)(o:Oper)(st Ag:St):Prop:=∀ (C0:Cx) (M0:Mem) (w0:World) (a:Act) (w:World),Sim P C0 M0 w0 st a w→∀ (ro:Option Nat) (n:Nat) (K:Act→World→Prop) (Q:Exit→Act→World→Prop),
 (∀ a' w',(∃ v,a'=a.put o.dst v)→Sim P C0 M0 w0 Ag a' w'→K a' w')→if Region.wanted o (yielded ops a.tmps) then o.wpIn (Fen ro) n P a w K Q else (∀ f,o.about P w a.eval=some f→(Fen ro).fn f)∧K (a.put o.dst undef) w
theorem aZz(hT:∀ t i,T t=some i→bU P t=some i)(hE:kI P E){ops:List Oper}{o:Oper}{id:Nat}{st Ag:St}{s s':AS}(h:nV P T E ops o id st s=some (Ag,s'))(g:aW s'):bYd P ops.toArray o st Ag:=by
 intro C0 M0 w0 a w hsim ro n K Q hK;obtain ⟨C,hS,hM,hF,hD⟩:=hsim;unfold nV at h
 obtain ⟨go,s1,h1,k1⟩:=aD h;cases go with
 | true =>
  obtain ⟨vs,s2,h2,k2⟩:=aD k1;obtain ⟨e2,rfl⟩:=aE h2;obtain ⟨⟨x,L⟩,s3,h3,k3⟩:=aD k2;obtain ⟨rfl,rfl⟩:=aH k3;have gd:=nU.good h3 g;rw [lM hS h1 gd,if_pos rfl];refine ⟨fun f _=>trivial,?_⟩
  rw [Oper.semAt_eq _ _ _ (xP h3)]
  rcases rQ h3 with ⟨q,_,_,h4⟩ | ⟨h4,hno⟩
  ·obtain ⟨_,hup⟩:=xQ hT hE hS hM hF hD (pM hS _ _ e2) h4 g
   revert hup;generalize (execOp a.eval o).run P w=r;intro hup;cases r with
   | halt x w'=>exact hup.elim
   | ok nx w' =>
    cases nx with
    | value u=>exact hK _ _ ⟨_,rfl⟩ hup
    | skip=>exact hK _ _ ⟨_,rfl⟩ (hup _)
    | enter f us =>
     obtain ⟨rfl,hc⟩:=hup;refine ⟨fun h=>by simp [Fen,Fence.wide] at h,(rP (hc (n-1))).mono ?_⟩
     rintro e Fp ⟨u,rfl,hs⟩;exact hK _ _ ⟨_,rfl⟩ hs
    | _=>exact hup.elim
  ·obtain ⟨_,hup⟩:=aAg hT hE hM (pM hS _ _ e2) h4 g
   have hk:jG st.m (upds st.m L):=pL hno;revert hup;generalize (execOp a.eval o).run P w=r;intro hup;cases r with
   | halt x w'=>exact hup.elim
   | ok nx w' =>
    cases nx with
    | value u =>
     obtain ⟨C',f,m,r⟩:=hup;exact hK _ _ ⟨_,rfl⟩ (lN hS hM hF hD f hk m r)
    | skip =>
     obtain ⟨rfl,C',f,m⟩:=hup;exact hK _ _ ⟨_,rfl⟩ (lN hS hM hF hD f hk m (.any _))
    | enter f us =>
     obtain ⟨rfl,hc⟩:=hup;refine ⟨fun h=>by simp [Fen,Fence.wide] at h,(rP (hc (n-1))).mono ?_⟩
     rintro e Fp ⟨u,rfl,C',f,m,r⟩;exact hK _ _ ⟨_,rfl⟩ (lN hS hM hF hD f hk m r)
    | _=>exact hup.elim
 | false =>
  obtain ⟨rfl,rfl⟩:=aH k1;rw [lM hS h1 g];simp only [Bool.false_eq_true,if_false];exact ⟨fun f _=>trivial,hK _ _ ⟨_,rfl⟩ (lN hS hM hF hD (Fr.refl ..) .refl hM (.tup [] #[] rfl (fun i h=>by simp at h)))⟩
theorem nP{a:Act}{d:Option Nat}{v:Value}{i:Nat}(h:d≠some i):(a.put d v).tmps.getD i undef=a.tmps.getD i undef:=by
 cases d with
 | none=>rfl
 | some j =>
  have hne:j≠i:=fun e=>h (by rw [e])
  show (a.tmps.setIfInBounds j v).getD i undef=_;simp [A4,Array.getElem?_setIfInBounds_ne hne]
theorem aFk(hT:∀ t i,T t=some i→bU P t=some i)(hE:kI P E){ops:List Oper}:∀ (l:List Oper) (k:Nat) {st Ag:St} {s s':AS},(∀ j,l[j]? = ops[k+j]?)→aWe P T E ops l st s=some (Ag,s')→aW s' →
  ∀ (C0:Cx) (M0:Mem) (w0:World) (a:Act) (w:World),Sim P C0 M0 w0 st a w→∀ (ro:Option Nat) (n:Nat) (Q:Exit→Act→World→Prop),(∀ a' w',((∀ i,(∀ o∈l,o.dst≠some i)→a'.tmps.getD i undef=a.tmps.getD i undef)∧a'.defers=a.defers)→Sim P C0 M0 w0 Ag a' w'→Q .normal a' w')→wpOpsIn (Fen ro) n P ops.toArray Q ((List.range l.length).map (k + ·)) a w
 | [],k,st,Ag,s,s',_,h,g,C0,M0,w0,a,w,hs,ro,n,Q,hQ=>by
  obtain ⟨rfl,rfl⟩:=aH h;exact hQ _ _ ⟨fun _ _=>rfl,rfl⟩ hs
 | o::l,k,st,Ag,s,s',hl,h,g,C0,M0,w0,a,w,hs,ro,n,Q,hQ=>by
  obtain ⟨st1,s1,h1,k1⟩:=aD h;have h0:ops[k]? = some o:=by simpa using (hl 0).symm
  have ih:=fun a1 w1=>aFk hT hE l (k+1) (fun j=>by have:=hl (j+1);simpa [Nat.add_assoc,Nat.add_comm 1 j] using this) k1 g C0 M0 w0 a1 w1
  have hst:=aZz hT hE h1 (rR.good k1 g) C0 M0 w0 a w hs ro n (wpOpsIn (Fen ro) n P ops.toArray Q ((List.range l.length).map (k+1 + ·))) Q (fun a1 w1 hv Gd=>ih a1 w1 Gd ro n Q fun a' w' hk Bt=>hQ a' w' ⟨fun i hi=>by
   obtain ⟨v,rfl⟩:=hv;rw [hk.1 i fun o' Co=>hi o' (B7 _ Co),nP (hi o (jI ..))],by
   obtain ⟨v,rfl⟩:=hv;rw [hk.2];cases o.dst <;> rfl⟩ Bt)
  rw [pY,List.range_succ_eq_map,gT,sE];have hm:(List.range l.length).map ((k + ·) ∘ Nat.succ)=(List.range l.length).map (k+1 + ·):=by
   apply yO;intro x _;simp only [Function.comp];omega
  rw [hm,Nat.add_zero,wpOpsIn_cons];unfold wpOpIn;simp only [List.getElem?_toArray,h0];exact hst
def wrR(c:Code)(i:Nat):Bool:=match c with
 | .region _ ops _=>ops.toList.any fun o=>match o.dst with
  | some j=>Nat.beq j i
  | none=>false
 | _=>true
def cX(P:Program)(k:Nat)(c:Code)(st:St)(e:Ex)(Ag:St):Prop:=∀ (C0:Cx) (M0:Mem) (w0:World) (a:Act) (w:World),M0.length≤k→Sim P C0 M0 w0 st a w→∀ (ro:Option Nat) (n:Nat),c.wpIn (Fen ro) n P (fun e' a' w'=>e'=e.toExit∧Sim P C0 M0 w0 Ag a' w'∧(∀ i,wrR c i=false→a'.tmps.getD i undef=a.tmps.getD i undef)∧a'.defers=a.defers) a w
noncomputable def bFs(c:Code)(st:St):Ask (Ex × St):=match c with
 | .region _ ops false=>do
  let Ag ← aWe Tp tT EO ops.toList ops.toList st
  pure (.normal,Ag)
 | _=>fail
theorem cX.fin{k:Nat}{c:Code}{st Ag:St}{e:Ex}{g:Gh}{o:List OI}{l:List Prop}(h:yP k g (bFs c st (asg o))=some (e,Ag,l,[]))(gd:aW (out l)):cX Tp k c st e Ag:=by
 unfold yP at h
 split at h
 ·rename_i e1 st1 s hr
  split at h
  ·rename_i st2 hg
   simp only [Option.some.injEq,Prod.mk.injEq] at h
   obtain ⟨rfl,rfl,rfl,hs⟩:=h;unfold bFs at hr
   split at hr
   ·rename_i id ops
    obtain ⟨R6,s1,h1,k1⟩:=aD hr;obtain ⟨he,rfl⟩:=aH k1;cases he;intro C0 M0 w0 a w hk hsm ro n;refine wpIn_region ?_;have:=aFk aEz aEy ops.toList 0 (fun j=>by simp) h1 (fun p hp=>gd p hp) C0 M0 w0 a w hsm ro n (fun e' a' w'=>e'=Ex.normal.toExit∧Sim Tp C0 M0 w0 st2 a' w'∧(∀ i,wrR (.region id ops false) i=false→a'.tmps.getD i undef=a.tmps.getD i undef)∧a'.defers=a.defers) (fun a' w' hkp h'=>⟨rfl,dU hk hg h',fun i hi=>hkp.1 i fun o ho e=>by
     unfold wrR at hi
     have:=List.any_eq_false.1 hi o ho;rw [e] at this
     exact this (Nat.beq_refl i),hkp.2⟩)
    simpa using this
   ·cases hr
  ·cases h
 ·cases h
theorem cX.fi{k:Nat}{c:Code}{st Ag:St}{e:Ex}(g:Gh)(o:List OI){l:List Prop}(gd:aW (out l))(h:yP k g (bFs c st (asg o))=some (e,Ag,l,[]):=by kernel_rfl):cX Tp k c st e Ag:=cX.fin h gd
end KV
end Go.Proofs
end
namespace Go.Proofs
namespace KV
open Tryz
section

abbrev dN(x:List Int):Int:=x.getD 0 0
abbrev dK(x:List Int):Int:=x.getD 1 0
abbrev dMi(x:List Int):Int:=x.getD 2 0
abbrev dB(x:List Int):Int:=x.getD 3 0
abbrev dMu(x:List Int):Int:=x.getD 4 0
abbrev dAb(x:List Int):Int:=x.getD 5 0
def gF(k:Int):Bool:=k == 4 || k == 7
def cI(k:Int):Bool:=k == 8 || k == 9

def bJ(dc:Lqq)(n:Int):Lqq:=dc.reverse.filter fun x=>dAb x == n

structure DS where
 x:List Int
 cnt:Bool
 upd:Bool
 rul:Option (List Int)
 chg:Option (List Int)
 much:Int

def jN(t:List DS)(n:Int):List DS:=t.reverse.filter fun s=>dAb s.x == n
def oY(dl:Int)(x:List Int):Bool:=gF (dK x) && decide (dl<dMi x)
def vK(x y:List Int):Bool:=dK y == 5 || (dK y == 7 && !cI (dK x))
def bGw(x:List Int)(s:DS):Bool:=vK x s.x && s.cnt && (dK s.x == 5 || s.upd)
def mkS(dl:Int)(oc x:List Int)(t:List DS):DS :=
 ⟨x,!oY dl x && !((jN t (dN x)).any (bGw x)),
  match (jN t (dN x)).find? fun s=>cI (dK s.x) && s.cnt with
   | some s=>dK s.x == 8
   | none=>oc.contains (dN x),
  ((jN t (dN x)).find? fun s=>cI (dK s.x) && s.cnt).map (·.x),
  ((jN t (dN x)).find? fun s=>dK s.x == 6 && s.cnt).map (·.x),
  match (jN t (dN x)).find? fun s=>dK s.x == 6 && s.cnt with
   | some s=>s.much
   | none=>dMu x⟩
def gO(dl:Int)(oc:List Int):Lqq→List DS
 | []=>[]
 | x::r=>mkS dl oc x (gO dl oc r)::gO dl oc r

theorem aIk(dl:Int)(oc:List Int):∀ dc:Lqq,(gO dl oc dc).map (·.x)=dc
 | []=>rfl
 | x::r=>by rw [gO,gT,aIk dl oc r];rfl
theorem bNh(dl:Int)(oc:List Int)(dc:Lqq)(n:Int):(jN (gO dl oc dc) n).map (·.x)=bJ dc n:=by
 unfold jN bJ
 conv=>rhs;rw [← aIk dl oc dc]
 rw [← List.map_reverse,List.filter_map];rfl

structure bS (dc:Lqq):Prop where
 ud:uni 6 dc
 len:dc.length≤1000
 rng:∀ x∈dc,dcB x=true
 up:dc.Pairwise fun a b=>dN a<dN b
 ord:∀ x∈dc,orB x=true

theorem bS.tail{x:List Int}{r:Lqq}(h:bS (x::r)):bS r :=
 ⟨fun y hy=>h.ud y (B7 _ hy),by have:=h.len;simp at this;omega,fun y hy=>h.rng y (B7 _ hy),(bJa.1 h.up).2,fun y hy=>h.ord y (B7 _ hy)⟩
theorem aQy{a r:Lqq}{x:List Int}(h:bS (a++x::r)):bJ (a++x::r) (dN x)=bJ r (dN x):=by
 unfold bJ;have e:a++x::r=(a++[x])++r:=by simp
 rw [e,List.reverse_append,sD];have:(a++[x]).reverse.filter (fun y=>dAb y == dN x)=[]:=by
  rw [List.filter_eq_nil_iff];intro y hy;have hy:y∈a++[x]:=aBc.1 hy;have hm:y∈a++x::r:=by rw [e];exact mD _ hy
  have Um:1≤dN x:=(gY.1 (h.rng x (by simp))).1.1
  have hle:dN y≤dN x:=by
   rcases eU.1 hy with hy | hy
   ·exact Int.le_of_lt ((List.pairwise_append.1 h.up).2.2 y hy x (by simp))
   ·simp at hy;rw [hy];exact Int.le_refl _
  have ho:=h.ord y hm;unfold orB at ho
  simp only [beq_iff_eq];show ¬ y.getD 5 0=x.getD 0 0
  split at ho
  ·have:y.getD 5 0=0:=by simpa using ho
   unfold dN at Um;omega
  ·have:=bO.1 ho
   unfold dN at hle;omega
 rw [this,List.append_nil]

def yD(L:List (Int × Lqq))(k:Int):Lqq:=match L.find? fun e=>e.1 == k with
 | some e=>e.2
 | none=>[]
def aDq(L:List (Int × Lqq))(k:Int)(v:Lqq):List (Int × Lqq):=if L.any (fun e=>e.1 == k) then L.map (fun e=>if e.1 == k then (k,v) else e) else L++[(k,v)]
def iC(L:List (Int × Lqq))(x:List Int):List (Int × Lqq):=if 0<dAb x then aDq L (dAb x) (yD L (dAb x)++[x]) else L
def abM(dc:Lqq):List (Int × Lqq):=dc.reverse.foldl iC []

structure aLq (q:Lqq) (L:List (Int × Lqq)):Prop where
 nd:(L.map (·.1)).Nodup
 mem:∀ e∈L,0<e.1∧e.2≠[]∧e.2=q.filter fun x=>dAb x == e.1
 all:∀ x∈q,0<dAb x→dAb x∈L.map (·.1)
theorem aLq.look{q:Lqq}{L:List (Int × Lqq)}(h:aLq q L){n:Int}(hn:0<n):yD L n=q.filter fun x=>dAb x == n:=by
 unfold yD;cases hf:L.find? fun e=>e.1 == n with
 | some e =>
  have h1:=uY hf;have h2:e.1=n:=by simpa using aOj hf
  rw [← h2];exact (h.mem e h1).2.2
 | none =>
  symm;rw [List.filter_eq_nil_iff];intro x hx he;have he:dAb x=n:=by simpa using he
  obtain ⟨e,h1,h2⟩:=dH.1 (h.all x hx (by omega))
  have:=aBb.1 hf e h1;exact this (by rw [h2,he];exact beq_self_eq_true n)
theorem bGx{L:List (Int × Lqq)}{k:Int}{v:Lqq}{e:Int × Lqq}(h:e∈aDq L k v):e=(k,v)∨(e∈L∧e.1≠k):=by
 unfold aDq at h
 split at h
 ·obtain ⟨z,hz,rfl⟩:=dH.1 h
  by_cases hk:z.1=k
  ·left;simp [hk]
  ·right;simp [hk,hz]
 ·rename_i hn
  rcases eU.1 h with h | h
  ·right
   refine ⟨h,fun hk=>hn (List.any_eq_true.2 ⟨e,h,by simpa using hk⟩)⟩
  ·left;simpa using h
theorem bBp{L:List (Int × Lqq)}{k:Int}{v:Lqq}:(k∈L.map (·.1)∧(aDq L k v).map (·.1)=L.map (·.1))∨(k∉L.map (·.1)∧(aDq L k v).map (·.1)=L.map (·.1)++[k]):=by
 unfold aDq
 by_cases h:L.any (fun e=>e.1 == k)=true
 ·left
  rw [if_pos h];refine ⟨?_,?_⟩
  ·obtain ⟨e,h1,h2⟩:=List.any_eq_true.1 h
   exact dH.2 ⟨e,h1,by simpa using h2⟩
  ·rw [sE]
   refine yO fun e _ => ?_
   by_cases hk:e.1=k
   ·simp [hk]
   ·simp [hk]
 ·right
  rw [if_neg h];refine ⟨fun hm=>h ?_,by simp⟩
  obtain ⟨e,h1,h2⟩:=dH.1 hm;exact List.any_eq_true.2 ⟨e,h1,by simpa using h2⟩
theorem aLq.step{q:Lqq}{L:List (Int × Lqq)}(h:aLq q L)(x:List Int)(hx:0≤dAb x):aLq (q++[x]) (iC L x):=by
 unfold iC
 by_cases hp:0<dAb x
 ·rw [if_pos hp]
  have hk:=bBp (L:=L) (k:=dAb x) (v:=yD L (dAb x)++[x]);refine ⟨?_,fun e he => ?_,fun y hy h0 => ?_⟩
  ·rcases hk with ⟨_,hk⟩ | ⟨hn,hk⟩
   ·rw [hk];exact h.nd
   ·rw [hk,List.nodup_append]
    exact ⟨h.nd,by simp,fun a ha b hb he=>hn (by rw [← List.mem_singleton.1 hb,← he];exact ha)⟩
  ·rcases bGx he with rfl | ⟨h1,h2⟩
   ·refine ⟨hp,by simp,?_⟩
    dsimp only;rw [h.look hp,sD];simp
   ·obtain ⟨q1,q2,q3⟩:=h.mem e h1
    refine ⟨q1,q2,?_⟩;rw [sD,← q3];have:[x].filter (fun y=>dAb y == e.1)=[]:=by
     rw [List.filter_eq_nil_iff];intro y hy;simp at hy
     subst hy;simpa using fun he=>h2 he.symm
    rw [this,List.append_nil]
  ·have:dAb y=dAb x∨dAb y∈L.map (·.1):=by
    rcases eU.1 hy with hy | hy
    ·exact .inr (h.all y hy h0)
    ·simp at hy;left;rw [hy]
   rcases hk with ⟨hm,hk⟩ | ⟨hn,hk⟩
   ·rw [hk]
    rcases this with h1 | h1
    ·rw [h1];exact hm
    ·exact h1
   ·rw [hk]
    rcases this with h1 | h1
    ·rw [h1];simp
    ·exact mD _ h1
 ·rw [if_neg hp]
  have h0:dAb x=0:=by omega
  refine ⟨h.nd,fun e he => ?_,fun y hy h1 => ?_⟩
  ·obtain ⟨q1,q2,q3⟩:=h.mem e he
   refine ⟨q1,q2,?_⟩;rw [sD,← q3];have:[x].filter (fun y=>dAb y == e.1)=[]:=by
    rw [List.filter_eq_nil_iff];intro y hy;simp at hy
    subst hy;simp only [beq_iff_eq];omega
   rw [this,List.append_nil]
  ·rcases eU.1 hy with hy | hy
   ·exact h.all y hy h1
   ·simp at hy;rw [hy] at h1;omega
theorem wX:∀ (p q:Lqq) (L:List (Int × Lqq)),aLq q L→(∀ x∈p,0≤dAb x)→aLq (q++p) (p.foldl iC L)
 | [],q,L,h,_=>by simpa using h
 | x::p,q,L,h,hp=>by
  have:=wX p (q++[x]) (iC L x) (h.step x (hp x (jI ..))) (fun y hy=>hp y (B7 _ hy))
  simpa using this
theorem kX{dc:Lqq}(h:bS dc):∀ x∈dc,0≤dAb x∧dAb x≤9998:=fun x hx=>by
 have h1:=gY.1 (h.rng x hx);have ho:=h.ord x hx;unfold orB at ho
 show 0≤x.getD 5 0∧x.getD 5 0≤9998
 split at ho
 ·have:x.getD 5 0=0:=by simpa using ho
  omega
 ·have:=bO.1 ho;omega
theorem aQz{dc:Lqq}(h:bS dc):aLq dc.reverse (abM dc):=by
 have:=wX dc.reverse [] [] ⟨by simp,fun e he=>(by cases he),fun x hx=>(by cases hx)⟩ (fun x hx=>(kX h x (by simpa using hx)).1)
 simpa [abM] using this
theorem bGy{dc:Lqq}(h:bS dc){n:Int}(hn:0<n):yD (abM dc) n=bJ dc n:=(aQz h).look hn
end
section

def stF(dl:Int)(oc:List Int)(dc:Lqq)(x:List Int):DS:=((gO dl oc dc).find? fun s=>s.x == x).getD (mkS dl oc x [])
def cZ(dl:Int)(oc:List Int)(dc:Lqq)(x:List Int):Bool:=(stF dl oc dc x).cnt
def aDp(dl:Int)(oc:List Int)(dc:Lqq)(x:List Int):Bool:=(stF dl oc dc x).upd
def tW(dl:Int)(oc:List Int)(dc:Lqq)(x:List Int):Option (List Int):=(stF dl oc dc x).rul
def aIj(dl:Int)(oc:List Int)(dc:Lqq)(x:List Int):Option (List Int):=(stF dl oc dc x).chg
def nR(dl:Int)(oc:List Int)(dc:Lqq)(x:List Int):Int:=(stF dl oc dc x).much

theorem aLo{a r:Lqq}{x:List Int}(h:bS (a++x::r)){y:List Int}(hy:y∈a):dN y<dN x:=(List.pairwise_append.1 h.up).2.2 y hy x (by simp)
theorem aLp(dl:Int)(oc:List Int){x:List Int}{r:Lqq}:∀ (a:Lqq),bS (a++x::r)→(gO dl oc (a++x::r)).find? (fun s=>s.x == x)=some (mkS dl oc x (gO dl oc r))
 | [],h=>by
  simp only [List.nil_append,gO];rw [List.find?_cons_of_pos];show (mkS dl oc x (gO dl oc r)).x == x;exact beq_self_eq_true x
 | y::a,h=>by
  simp only [List.cons_append,gO];rw [List.find?_cons_of_neg,aLp dl oc a h.tail];show ¬ ((mkS dl oc y (gO dl oc (a++x::r))).x == x)=true;have h1:=aLo h (y:=y) (by simp)
  intro he;have:y=x:=by simpa [mkS] using he
  rw [this] at h1;omega
theorem aCb{dl:Int}{oc:List Int}{a r:Lqq}{x:List Int}(h:bS (a++x::r)):stF dl oc (a++x::r) x=mkS dl oc x (gO dl oc r):=by
 unfold stF;rw [aLp dl oc a h];rfl
theorem aUf(dl:Int)(oc:List Int)(r:Lqq):∀ a:Lqq,∃ l,gO dl oc (a++r)=l++gO dl oc r
 | []=>⟨[],rfl⟩
 | y::a=>by
  obtain ⟨l,h⟩:=aUf dl oc r a;exact ⟨mkS dl oc y (gO dl oc (a++r))::l,by simp [gO,h]⟩
theorem aUg{dl:Int}{oc:List Int}{s:DS}:∀ {dc:Lqq},s∈gO dl oc dc→∃ a r,dc=a++s.x::r∧s=mkS dl oc s.x (gO dl oc r)
 | [],h=>by simp [gO] at h
 | y::q,h=>by
  simp only [gO,gG] at h
  rcases h with rfl | h
  ·exact ⟨[],q,rfl,rfl⟩
  ·obtain ⟨a,r,h1,h2⟩:=aUg h
   exact ⟨y::a,r,by rw [h1];rfl,h2⟩
theorem bBo{dl:Int}{oc:List Int}{dc:Lqq}{s:DS}(h:bS dc)(hs:s∈gO dl oc dc):stF dl oc dc s.x=s:=by
 obtain ⟨a,r,h1,h2⟩:=aUg hs;subst h1;rw [aCb h,← h2]
theorem aQx{dl:Int}{oc:List Int}{dc:Lqq}{x:List Int}(h:bS dc)(hx:x∈dc):(stF dl oc dc x).x=x:=by
 obtain ⟨a,r,rfl⟩:=List.append_of_mem hx;rw [aCb h];rfl
theorem rA{dl:Int}{oc:List Int}{a r:Lqq}{x:List Int}(h:bS (a++x::r)):jN (gO dl oc r) (dN x)=(bJ (a++x::r) (dN x)).map (stF dl oc (a++x::r)):=by
 rw [aQy h,← bNh dl oc r (dN x),sE]
 conv=>lhs;rw [← List.map_id (jN (gO dl oc r) (dN x))]
 refine yO fun s hs => ?_
 have hs:s∈gO dl oc r:=by
  unfold jN at hs
  exact aBc.1 (aBd.1 hs).1
 have e:a++x::r=(a++[x])++r:=by simp
 have:s∈gO dl oc (a++x::r):=by
  obtain ⟨l,hl⟩:=aUf dl oc r (a++[x]);rw [e,hl];exact aAz _ hs
 exact (bBo h this).symm

theorem dS{dc:Lqq}{n:Int}{y:List Int}(h:y∈bJ dc n):y∈dc∧dAb y=n:=by
 unfold bJ at h
 obtain ⟨h1,h2⟩:=aBd.1 h;exact ⟨aBc.1 h1,by simpa using h2⟩
section
variable {dl:Int} {oc:List Int} {dc:Lqq} {x:List Int}
theorem bVv(h:bS dc)(l:Lqq)(hl:∀ y∈l,y∈dc)(f:DS→Bool)(g:List Int→Bool)(hfg:∀ y∈dc,f (stF dl oc dc y)=g y):(l.map (stF dl oc dc)).any f=l.any g:=by
 rw [List.any_map]
 induction l with
 | nil=>rfl
 | cons y l ih =>
  rw [List.any_cons,List.any_cons,ih fun z hz=>hl z (B7 _ hz)]
  rw [Function.comp,hfg y (hl y (jI ..))]
theorem zC(h:bS dc)(l:Lqq)(hl:∀ y∈l,y∈dc)(f:DS→Bool)(g:List Int→Bool)(hfg:∀ y∈dc,f (stF dl oc dc y)=g y):(l.map (stF dl oc dc)).find? f=(l.find? g).map (stF dl oc dc):=by
 induction l with
 | nil=>rfl
 | cons y l ih =>
  rw [gT,List.find?_cons,List.find?_cons,hfg y (hl y (jI ..)),ih fun z hz=>hl z (B7 _ hz)]
  cases g y <;> rfl
theorem bVw(h:bS dc)(hx:x∈dc):cZ dl oc dc x=(!oY dl x && !((bJ dc (dN x)).any fun y=>vK x y && cZ dl oc dc y && (dK y == 5 || aDp dl oc dc y))):=by
 obtain ⟨a,r,rfl⟩:=List.append_of_mem hx;unfold cZ;rw [aCb h];simp only [mkS];rw [rA h,bVv (dl:=dl) (oc:=oc) h _ (fun y hy=>(dS hy).1) (bGw x) (fun y=>vK x y && cZ dl oc (a++x::r) y && (dK y == 5 || aDp dl oc (a++x::r) y)) (fun y hy => ?_)]
 ·rfl
 ·unfold bGw cZ aDp
  rw [aQx h hy]
theorem sS{l:Lqq}{g:List Int→Bool}{y:List Int}(h:l.find? g=some y):y∈l:=uY h
theorem aCc(h:bS dc)(l:Lqq)(hl:∀ y∈l,y∈dc)(g:List Int→Bool):((l.find? g).map (stF dl oc dc)).map (·.x)=l.find? g:=by
 cases hf:l.find? g with
 | none=>rfl
 | some y=>simp only [Option.map_some];rw [aQx h (hl y (sS hf))]
theorem aCd(h:bS dc)(hx:x∈dc):tW dl oc dc x=(bJ dc (dN x)).find? fun y=>cI (dK y) && cZ dl oc dc y:=by
 obtain ⟨a,r,rfl⟩:=List.append_of_mem hx;unfold tW;rw [aCb h];simp only [mkS];rw [rA h,zC (dl:=dl) (oc:=oc) h _ (fun y hy=>(dS hy).1) _ (fun y=>cI (dK y) && cZ dl oc (a++x::r) y) (fun y hy => ?_),aCc h _ (fun y hy=>(dS hy).1)]
 unfold cZ;rw [aQx h hy]
theorem bVx(h:bS dc)(hx:x∈dc):aDp dl oc dc x=match tW dl oc dc x with | some y=>dK y == 8 | none=>oc.contains (dN x):=by
 rw [aCd h hx];obtain ⟨a,r,rfl⟩:=List.append_of_mem hx;unfold aDp;rw [aCb h];simp only [mkS];rw [rA h,zC (dl:=dl) (oc:=oc) h _ (fun y hy=>(dS hy).1) _ (fun y=>cI (dK y) && cZ dl oc (a++x::r) y) (fun y hy => ?_)]
 ·cases hf:(bJ (a++x::r) (dN x)).find? fun y=>cI (dK y) && cZ dl oc (a++x::r) y with
  | none=>rfl
  | some y=>simp only [Option.map_some];rw [aQx h (dS (sS hf)).1]
 ·unfold cZ;rw [aQx h hy]
theorem aCe(h:bS dc)(hx:x∈dc):aIj dl oc dc x=(bJ dc (dN x)).find? fun y=>dK y == 6 && cZ dl oc dc y:=by
 obtain ⟨a,r,rfl⟩:=List.append_of_mem hx;unfold aIj;rw [aCb h];simp only [mkS];rw [rA h,zC (dl:=dl) (oc:=oc) h _ (fun y hy=>(dS hy).1) _ (fun y=>dK y == 6 && cZ dl oc (a++x::r) y) (fun y hy => ?_),aCc h _ (fun y hy=>(dS hy).1)]
 unfold cZ;rw [aQx h hy]
theorem aUh(h:bS dc)(hx:x∈dc):nR dl oc dc x=match aIj dl oc dc x with | some y=>nR dl oc dc y | none=>dMu x:=by
 rw [aCe h hx];obtain ⟨a,r,rfl⟩:=List.append_of_mem hx;unfold nR;rw [aCb h];simp only [mkS];rw [rA h,zC (dl:=dl) (oc:=oc) h _ (fun y hy=>(dS hy).1) _ (fun y=>dK y == 6 && cZ dl oc (a++x::r) y) (fun y hy => ?_)]
 ·cases hf:(bJ (a++x::r) (dN x)).find? fun y=>dK y == 6 && cZ dl oc (a++x::r) y with
  | none=>rfl
  | some y=>rfl
 ·unfold cZ;rw [aQx h hy]
theorem bGv(h:bS dc){y:List Int}(hy:y∈dc){n:Int}(hn:dAb y=n)(h1:1≤n):n<dN y:=by
 have ho:=h.ord y hy;unfold orB at ho
 split at ho
 ·have:y.getD 5 0=0:=by simpa using ho
  rw [show y.getD 5 0=dAb y from rfl] at this;omega
 ·have:=bO.1 ho
  rw [show y.getD 5 0=dAb y from rfl] at this
  rw [show y.getD 0 0=dN y from rfl] at this
  omega
end
end
section

end
section

theorem bWb(a b:Int):skB [a,b]=(within a 1 999 && within b (-1) 360000):=rfl
end
section

theorem aLw{f:Lqq}(h:(aL f 0).Nodup):(aL (aB f) 0).Nodup:=((dC f).map _).nodup_iff.2 h
end
section
mutual
def wkP:PV→PV
 | .v (.slice none 0 0) => .sl 0 []
 | .agg cs => .agg (bHh cs)
 | x=>x
def bHh:List PV→List PV
 | []=>[]
 | x::r=>wkP x::bHh r
end
theorem aLx:∀ l:List PV,bHh l=l.map wkP
 | []=>by simp [bHh]
 | x::r=>by rw [bHh,aLx r];rfl
def Ny:AV→AV
 | .p x => .p (wkP x)
 | x=>x
theorem bNq{F:Nat→Prop}{w:World}{x:PV}{u:Value}(h:bW F w x u):bW F w (wkP x) u:=by
 induction h with
 | v x =>
  unfold wkP
  split
  ·rename_i e
   cases e;exact .sl 0 [] none 0 (fun _=>undef) (cP _) (Nat.zero_le _) (fun i h=>by simp at h) (fun i h=>by simp at h) (fun i h=>by simp at h)
  ·rename_i e;cases e
  ·exact .v x
 | sl n cs p cap us h1 h2 h3 h4 h5 _=>unfold wkP;exact .sl n cs p cap us h1 h2 h3 h4 h5
 | agg cs vs h0 h1 _ ih =>
  unfold wkP;rw [aLx];exact .agg _ vs (fun i hi=>h0 i (by simpa using hi)) (by simpa using h1) (fun i hi=>by
   have:=ih i (by simpa using hi)
   simpa using this)
 | mp es b cl arr us hb h0 h1 h2 h3 _=>unfold wkP;exact .mp es b cl arr us hb h0 h1 h2 h3
 | rp cs off b o us h1 h2 h3 _=>unfold wkP;exact .rp cs off b o us h1 h2 h3
 | fn f cs ds us vs h1 h2 h3 h4 _ _=>unfold wkP;exact .fn f cs ds us vs h1 h2 h3 h4
theorem bNr{C:Cx}{M:Mem}{w:World}{x:AV}{u:Value}(h:Rep C M w x u):Rep C M w (Ny x) u:=by
 cases h with
 | p x u h=>exact .p _ _ (bNq h)
 | _=>unfold Ny;constructor <;> assumption
theorem cG.wk{C:Cx}{M:Mem}{w:World}:∀ {args:List AV} {us:List Value},cG C M w args us→cG C M w (args.map Ny) us
 | [],_,h=>by cases h;exact .nil
 | x::l,_,h=>by
  cases h with
  | cons _ _ u us h1 h2=>exact .cons _ _ _ _ (bNr h1) h2.wk
theorem FMM.argwk{P:Program}{f:Nat}{args Am:List AV}{r:AV}{M M':Mem}(h:FMM P f Am M r M')(e:args.map Ny=Am):FMM P f args M r M':=fun C w us hus hM n=>by
 subst e;exact h C w us hus.wk hM n
theorem FV.argwk{P:Program}{f base:Nat}{args Am:List AV}{y:AV}{L:Upd}(h:FV P f Am base y L)(e:args.map Ny=Am):FV P f args base y L:=by
 obtain ⟨r,M1,h1,h2⟩:=h;exact ⟨r,M1,h1.argwk e,h2⟩
end
section

end
section

theorem bXu{dc:Lqq}{base:Nat}:FV Tp 89 [(.p (fS dc))] base (.fn 157 [] [(.rp [(fS dc)] 0)]) []:=FV.fi func89 [.g 3 ⟨[],[],[0],[]⟩] gn
end
section
variable {P:Program} {C C0:Cx} {M M0:Mem} {w w0:World}

theorem bM{w:World}{b:Nat}{o:Obj}(h:w.heap[b]? = some o):b<w.heap.size:=(kP.1 h).1

theorem aCj(hM:aO P C M w){w':World}(hsz:w.heap.size≤w'.heap.size)(hF:∀ b,C.F b→w'.heap[b]? = w.heap[b]?)(hL:∀ (id:Nat) (o:AO) (b:Nat),M[id]? = some (some o)→o.live=true→C.ι id=some b→w'.heap[b]? = w.heap[b]?) :
  aO P C M w'∧Le C C M M w w':=by
 have hle:Le C C M M w w':=⟨fun _ o h=>⟨o,h⟩,fun _ _ _ _ _ cs h=>⟨cs,h⟩,fun _ o h o' h' hl=>by rw [h] at h';cases h';exact ⟨hl,rfl,rfl⟩,fun _ h=>h,hF⟩
 refine ⟨⟨fun i Cb n cs hm => ?_,fun i Cb cs hm => ?_,fun i es cl hm => ?_,hM.inj,hM.nF,fun b hb=>B5 (hM.Fs b hb) hsz,fun i x b hm hl hb=>B5 (hM.lt i x b hm hl hb) hsz⟩,hle⟩
 ·rcases hM.row _ _ _ _ hm with h4 | ⟨b,arr,inf,q0,q1,q2,q3,q4,q5,q6,q7,q8⟩
  ·exact .inl h4
  ·exact .inr ⟨b,arr,inf,q0,by rw [hL _ _ _ hm rfl q0];exact q1,q2,q3,q4,q5,q6,fun j hj=>(q7 j hj).mono hle.F hle.fz,q8⟩
 ·obtain ⟨b,arr,q0,q1,q2,q3,q4⟩:=hM.box _ _ _ hm
  exact ⟨b,arr,q0,by rw [hL _ _ _ hm rfl q0];exact q1,q2,fun j hj=>(q3 j hj).mono hle,q4⟩
 ·obtain ⟨b,arr,q0,q1,q2,q3⟩:=hM.mp _ _ _ hm
  refine ⟨b,arr,q0,by rw [hL _ _ _ hm rfl q0];exact q1,q2,fun j hj => ?_⟩
  obtain ⟨en,r1,r2,r3,r4⟩:=q3 j hj;exact ⟨en,r1,r2,r3,r4.mono hle.F hle.fz⟩

theorem Sim.beside{R R':List (Nat × Obj)}{st:St}{a:Act}{w':World}(h:Sim P (C0.with R) M0 w0 st a w)(X:Nat→Prop)(hX:∀ b,X b→∃ o,(b,o)∈R)(h1:w'.os=w.os)(h2:w'.tape=w.tape)(h3:w'.output=w.output)
  (hsz:w.heap.size≤w'.heap.size) (hk:∀ b,b<w.heap.size→¬ X b→w'.heap[b]? = w.heap[b]?)
  (Sk:∀ p∈R',(p∈R∧¬ X p.1)∨(w'.heap[p.1]? = some p.2∧p.2 ≠ .deferred (some [])∧(w.heap.size≤p.1∨∃ o,(p.1,o)∈R))):Sim P (C0.with R') M0 w0 st a w':=by
 obtain ⟨C,hS,hM,hF,⟨l,m1,m2,m3⟩,hR,hP⟩:=h;have hXR:∀ b,X b→∃ o,w.heap[b]? = some o∧w0.heap.size≤b∧o ≠ .deferred (some [])∧¬ C.F b∧∀ (id:Nat) (o:AO),st.m[id]? = some (some o)→o.live=true→C.ι id≠some b:=fun b hb=>by
  obtain ⟨o,ho⟩:=hX b hb;exact ⟨o,hR _ ho⟩
 have hFz:∀ b,C.F b→w'.heap[b]? = w.heap[b]? := fun b hb=>hk b (hM.Fs b hb) (fun hx=>by obtain ⟨_,_,_,_,q,_⟩:=hXR b hx;exact q hb)
 have hLv:∀ (id:Nat) (o:AO) (b:Nat),st.m[id]? = some (some o)→o.live=true→C.ι id=some b→w'.heap[b]? = w.heap[b]? := fun id o b ho hl hb=>hk b (hM.lt _ _ _ ho hl hb) (fun hx=>by obtain ⟨_,_,_,_,_,q⟩:=hXR b hx;exact q id o ho hl hb)
 obtain ⟨E1,hle⟩:=aCj hM hsz hFz hLv;refine ⟨C,hS.le hle,E1,⟨h1.trans hF.os,h2.trans hF.tape,h3.trans hF.out,fL hF.size hsz,fun b hb hn=>(hk b (B5 hb hF.size) (fun hx=>by obtain ⟨_,_,q,_⟩:=hXR b hx;omega)).trans (hF.keep b hb hn),hF.ids,hF.row,hF.liv,hF.new,hF.F1,hF.F2⟩,⟨l,m1,m2,fun D hD => ?_⟩,fun p hp => ?_,fun i to ti sz L hm => ?_,hP.2⟩
 ·obtain ⟨q1,q2,q3⟩:=m3 D hD
  refine ⟨(hk D (bM q1) (fun hx => ?_)).trans q1,q2,q3⟩
  obtain ⟨o,r1,_,r3,_⟩:=hXR D hx;rw [q1] at r1;cases r1;exact r3 rfl
 ·rcases Sk p hp with ⟨hin,hx⟩ | ⟨r1,r2,r3⟩
  ·obtain ⟨q1,q2,q3,q4,q5⟩:=hR p hin
   exact ⟨(hk _ (bM q1) hx).trans q1,q2,q3,q4,q5⟩
  ·rcases r3 with r3 | ⟨o,ho⟩
   ·refine ⟨r1,fL hF.size r3,r2,fun hf => ?_,fun id o ho hl hb => ?_⟩
    ·have:=hM.Fs _ hf;omega
    ·have:=hM.lt _ _ _ ho hl hb;omega
   ·obtain ⟨q1,q2,q3,q4,q5⟩:=hR _ ho
    exact ⟨r1,q2,r2,q4,q5⟩
 ·obtain ⟨p,p0,p1⟩:=hP.1 _ _ _ _ _ hm
  refine ⟨p.move p.io rfl (fun _ h=>h) hFz fun b hb=>⟨hk b (p.lt hb).1 fun hx => ?_,p.own b hb⟩,p0,fun b hb=>⟨(p1 b hb).1,fun q hq e => ?_⟩⟩
  ·obtain ⟨o,ho⟩:=hX b hx
   exact (p1 b hb).2 _ ho rfl
  ·rcases Sk q hq with ⟨hin,_⟩ | ⟨_,_,r3⟩
   ·exact (p1 b hb).2 q hin e
   ·rcases r3 with r3 | ⟨o,ho⟩
    ·have:=(p.lt hb).1;omega
    ·exact (p1 b hb).2 _ ho e

theorem Sim.has{R:List (Nat × Obj)}{st:St}{a:Act}(h:Sim P (C0.with R) M0 w0 st a w):∀ p∈R,w.heap[p.1]? = some p.2:=fun p hp=>by
 obtain ⟨C,_,_,_,_,hR,_⟩:=h;exact (hR p hp).1

end
section
open Go.Maps Go.MapKept
open Go.ChangeMaps (setBlock)

structure Ent where
 k:Int
 l:Lqq
 b:Nat
 cap:Nat
 arr:Array Value

def Ent.val(e:Ent):Value := .slice (some ⟨e.b,0,none⟩) e.l.length e.cap
def Ent.blk(e:Ent):Nat × Obj:=(e.b,.cells e.arr 84 (0,0))
structure Ent.OK (e:Ent):Prop where
 key:(Lit.int .i64 e.k).wf=true
 sz:e.arr.size=e.cap*6
 le:e.l.length≤e.cap
 cap:e.cap≤maxLen
 at_:e.arr.toList.take (e.l.length*6)=e.l.flatten.map (Value.int .i64)
 u:uni 6 e.l

structure kL (mb:Nat) (es:Array MapEntry) (L:List Ent):Prop where
 e1:∀ x∈es.toList,∃ e∈L,x.key = .int .i64 e.k∧x.val=e.val
 e2:∀ e∈L,∃ x∈es.toList,x.key = .int .i64 e.k∧x.val=e.val
 nd:es.toList.Pairwise (fun x y=>x.key≠y.key)
 ok:∀ e∈L,e.OK
 keys:(L.map (·.k)).Nodup
 blks:(mb::L.map (·.b)).Nodup
 ord:es.toList.map (fun x=>(x.key,x.val))=L.map fun e=>(Value.int .i64 e.k,e.val)

theorem kL.nil(mb:Nat):kL mb #[] []:=⟨fun x h=>by simp at h,fun e h=>by simp at h,by simp,fun e h=>by simp at h,by simp,by simp,rfl⟩

def rC(L:List Ent)(k:Int):Option Ent:=L.find? fun e=>e.k == k
def oZ(L:List Ent)(k:Int):Value:=match rC L k with
 | some e=>e.val
 | none => .slice none 0 0

theorem tY{L:List Ent}{k:Int}{e:Ent}(h:rC L k=some e):e∈L∧e.k=k:=⟨uY h,by simpa using aOj h⟩
theorem aRh{L:List Ent}{k:Int}(h:rC L k=none):∀ e∈L,e.k≠k:=fun e he hk=>by
 have:=aBb.1 h e he;simp [hk] at this
theorem bCd{L:List Ent}{k:Int}{e:Ent}(hn:(L.map (·.k)).Nodup)(he:e∈L)(hk:e.k=k):rC L k=some e:=by
 cases h:rC L k with
 | none=>exact absurd hk (aRh h e he)
 | some e' =>
  obtain ⟨h1,h2⟩:=tY h;have:∀ (l:List Ent),(l.map (·.k)).Nodup→e∈l→e'∈l→e=e':=by
   intro l
   induction l with
   | nil=>intro _ h;simp at h
   | cons x r ih =>
    intro hn h3 h4;rw [gT,List.nodup_cons] at hn
    rcases gG.1 h3 with e1 | h5
    ·rcases gG.1 h4 with e2 | h6
     ·rw [e1,e2]
     ·exact absurd (dH.2 ⟨e',h6,by rw [h2,← hk,e1]⟩) hn.1
    ·rcases gG.1 h4 with e2 | h6
     ·exact absurd (dH.2 ⟨e,h5,by rw [hk,← h2,e2]⟩) hn.1
     ·exact ih hn.2 h5 h6
  rw [this L hn he h1]

section
variable {P:Program} {w:World} {t kt et:TypeId} {mb:Nat} {es:Array MapEntry} {cl:Nat} {L:List Ent}

theorem aIp(hkt:P.underlying kt=some (.int .i64)){k:Int}(hk:(Lit.int .i64 k).wf=true):keyOf P kt (.int .i64 k)=some (.int .i64 k):=keyOf_int_mk hkt hk

theorem bHi(ht:P.underlying t=some (.map kt et))(hkt:P.underlying kt=some (.int .i64))(hz:(zeroValue et).run P w = .ok (.slice none 0 0) w)(hb:w.heap[mb]? = some (.map es cl))(hM:kL mb es L){k:Int}(hk:(Lit.int .i64 k).wf=true) :
  (Instr.lookup t (.map (some mb)) (.int .i64 k) false).run P w = .ok (oZ L k) w:=by
 have K:=int_keyed hkt;have hkey:=aIp hkt hk;have hes:∀ e∈es.toList,∃ l,keyOf P kt e.key=some l:=fun x hx=>by
  obtain ⟨e,he,h1,_⟩:=hM.e1 x hx;exact ⟨_,by rw [h1];exact aIp hkt (hM.ok e he).key⟩
 rcases K.find w hkey es.toList hes with ⟨h1,h2⟩ | ⟨j,e0,h1,h2,h3⟩
 ·have:rC L k=none:=by
   rw [rC,aBb];intro e he;obtain ⟨x,hx,h4,_⟩:=hM.e2 e he;have:=h2 x hx;rw [h4] at this
   intro E2;exact this (by rw [eq_of_beq E2])
  unfold oZ;rw [this];simp [Instr.lookup,run_underlying ht,MapKept.run_getObj_map hb,K.check w _ hkey,h1,hz,Result.andThen]
 ·obtain ⟨e,he,h4,h5⟩:=hM.e1 e0 (Bf h2)
  rw [h3] at h4
  have E2:e.k=k:=by injection h4 with _ h;exact h.symm
  unfold oZ;rw [bCd hM.keys he E2];simp [Instr.lookup,run_underlying ht,MapKept.run_getObj_map hb,K.check w _ hkey,h1,Result.andThen,h5]

def nT(L:List Ent)(e:Ent):List Ent:=if L.any (fun x=>x.k == e.k) then L.map (fun x=>if x.k == e.k then e else x) else L++[e]
theorem vP{L:List Ent}{e:Ent}(h:∀ x∈L,x.k≠e.k):nT L e=L++[e]:=by
 unfold nT;rw [if_neg];intro h1;obtain ⟨x,hx,he⟩:=List.any_eq_true.1 h1;exact h x hx (by simpa using he)
theorem rD{L:List Ent}{e x:Ent}(hx:x∈L)(he:x.k=e.k):nT L e=L.map (fun x=>if x.k == e.k then e else x):=by
 unfold nT;rw [if_pos (List.any_eq_true.2 ⟨x,hx,by simpa using he⟩)]
theorem fN{L:List Ent}{e x:Ent}:x∈nT L e↔(x∈L∧x.k≠e.k)∨x=e:=by
 by_cases h:∃ y∈L,y.k=e.k
 ·obtain ⟨y,hy,he⟩:=h
  rw [rD hy he,dH];constructor
  ·rintro ⟨z,hz,rfl⟩
   by_cases hk:z.k=e.k
   ·rw [if_pos (by simpa using hk)];exact .inr rfl
   ·rw [if_neg (by simpa using hk)];exact .inl ⟨hz,hk⟩
  ·rintro (⟨h1,h2⟩ | rfl)
   ·exact ⟨x,h1,by rw [if_neg (by simpa using h2)]⟩
   ·exact ⟨y,hy,by rw [if_pos (by simpa using he)]⟩
 ·have h':∀ y∈L,y.k≠e.k:=fun y hy he=>h ⟨y,hy,he⟩
  rw [vP h',eU,List.mem_singleton];constructor
  ·rintro (h1 | h1)
   ·exact .inl ⟨h1,h' x h1⟩
   ·exact .inr h1
  ·rintro (⟨h1,_⟩ | h1)
   ·exact .inl h1
   ·exact .inr h1
theorem bCe{L:List Ent}{e:Ent}(hn:(L.map (·.k)).Nodup):((nT L e).map (·.k)).Nodup:=by
 by_cases h:∃ y∈L,y.k=e.k
 ·obtain ⟨y,hy,he⟩:=h
  rw [rD hy he,sE];have:L.map ((fun x=>x.k) ∘ fun x=>if x.k == e.k then e else x)=L.map (·.k):=yO fun x _=>by
   by_cases hk:x.k=e.k
   ·simp [hk]
   ·simp [hk]
  rw [this];exact hn
 ·have h':∀ y∈L,y.k≠e.k:=fun y hy he=>h ⟨y,hy,he⟩
  rw [vP h',eE,List.nodup_append];refine ⟨hn,by simp,fun x hx y hy => ?_⟩
  obtain ⟨z,hz,rfl⟩:=dH.1 hx;simp at hy
  subst hy;exact h' z hz
theorem bCf{mb:Nat}{L:List Ent}{e:Ent}(hn:(L.map (·.k)).Nodup)(hb:(mb::L.map (·.b)).Nodup)(h1:e.b≠mb)(h2:∀ x∈L,x.k≠e.k→x.b≠e.b):(mb::(nT L e).map (·.b)).Nodup:=by
 obtain ⟨b1,b2⟩:=List.nodup_cons.1 hb;refine List.nodup_cons.2 ⟨?_,?_⟩
 ·intro hin
  obtain ⟨x,hx,hxb⟩:=dH.1 hin
  rcases fN.1 hx with ⟨h1,_⟩ | rfl
  ·exact b1 (dH.2 ⟨x,h1,hxb⟩)
  ·exact h1 hxb
 ·by_cases h:∃ y∈L,y.k=e.k
  ·obtain ⟨y,hy,he⟩:=h
   rw [rD hy he,sE,List.Nodup,List.pairwise_map];rw [List.Nodup,List.pairwise_map] at hn b2
   refine List.Pairwise.imp_of_mem ?_ (hn.and b2);intro x z hx hz ⟨q1,q2⟩;dsimp only [Function.comp]
   by_cases hk:x.k=e.k
   ·rw [if_pos (by simpa using hk),if_neg (by simp;rw [← hk];exact fun h=>q1 h.symm)]
    exact fun he=>h2 z hz (fun h=>q1 (by rw [hk,h])) he.symm
   ·rw [if_neg (by simpa using hk)]
    by_cases E7:z.k=e.k
    ·rw [if_pos (by simpa using E7)];exact h2 x hx hk
    ·rw [if_neg (by simpa using E7)];exact q2
  ·have h':∀ y∈L,y.k≠e.k:=fun y hy he=>h ⟨y,hy,he⟩
   rw [vP h',eE,List.nodup_append];refine ⟨b2,by simp,fun x hx y hy => ?_⟩
   obtain ⟨z,hz,rfl⟩:=dH.1 hx;simp at hy
   subst hy;exact h2 z hz (h' z hz)

theorem bNx(ht:P.underlying t=some (.map kt et))(hkt:P.underlying kt=some (.int .i64))(hb:w.heap[mb]? = some (.map es cl))(hM:kL mb es L)(e:Ent)(he:e.OK)
  (hblk:e.b≠mb∧∀ x∈L,x.k≠e.k→x.b≠e.b) :
  ∃ Bq Cp,(Instr.mapUpdate t (.map (some mb)) (.int .i64 e.k) e.val).run P w = .ok () (setBlock w mb (.map Bq Cp))∧kL mb Bq (nT L e)∧((∀ x∈es.toList,x.born<cl)→∀ x∈Bq.toList,x.born<Cp):=by
 have K:=int_keyed hkt;have hkey:=aIp hkt he.key;have hes:∀ e∈es.toList,∃ l,keyOf P kt e.key=some l:=fun x hx=>by
  obtain ⟨e,he,h1,_⟩:=hM.e1 x hx;exact ⟨_,by rw [h1];exact aIp hkt (hM.ok e he).key⟩
 have hok:∀ x∈nT L e,x.OK:=fun x hx=>by
  rcases fN.1 hx with ⟨h1,_⟩ | rfl
  ·exact hM.ok x h1
  ·exact he
 have hkeys:((nT L e).map (·.k)).Nodup:=bCe hM.keys
 have hblks:(mb::(nT L e).map (·.b)).Nodup:=bCf hM.keys hM.blks hblk.1 hblk.2
 rcases K.find w hkey es.toList hes with ⟨h1,h2⟩ | ⟨j,e0,h1,h2,h3⟩
 ·refine ⟨es.push ⟨.int .i64 e.k,e.val,cl⟩,cl+1,?_,⟨fun x hx => ?_,fun x hx => ?_,?_,hok,hkeys,hblks,?_⟩,fun hbn x hx => ?_⟩
  ·simp [Instr.mapUpdate,run_underlying ht,MapKept.run_getObj_map hb,K.check w false hkey,h1,MapKept.run_setObj_map _ hb,Result.andThen,setBlock]
  ·simp only [Array.toList_push,eU,List.mem_singleton] at hx
   rcases hx with hx | rfl
   ·obtain ⟨y,hy,q1,q2⟩:=hM.e1 x hx
    refine ⟨y,fN.2 (.inl ⟨hy,fun hk=>h2 x hx (by rw [q1,hk])⟩),q1,q2⟩
   ·exact ⟨e,fN.2 (.inr rfl),rfl,rfl⟩
  ·rcases fN.1 hx with ⟨q1,_⟩ | rfl
   ·obtain ⟨y,hy,q2⟩:=hM.e2 x q1
    exact ⟨y,by simp [hy],q2⟩
   ·exact ⟨⟨.int .i64 x.k,x.val,cl⟩,by simp,rfl,rfl⟩
  ·rw [Array.toList_push,List.pairwise_append]
   exact ⟨hM.nd,by simp,fun x hx y hy=>by simp at hy;subst hy;exact h2 x hx⟩
  ·have hno:∀ x∈L,x.k≠e.k:=fun x hx hk=>by
    obtain ⟨y,hy,q2,_⟩:=hM.e2 x hx;exact h2 y hy (by rw [q2,hk])
   rw [vP hno,Array.toList_push,eE,eE,hM.ord];rfl
  ·simp only [Array.toList_push,eU,List.mem_singleton] at hx
   rcases hx with hx | rfl
   ·exact Nat.lt_succ_of_lt (hbn x hx)
   ·exact Nat.lt_succ_self _
 ·have hj:es[j]? = some e0:=by simpa using h2
  have hlist:(es.modify j (fun e'=>{ e' with key := .int .i64 e.k,val:=e.val })).toList=es.toList.set j { e0 with key := .int .i64 e.k,val:=e.val }:=by
   rw [Array.toList_modify,Go.ChangeMaps.modify_eq_set _ _ _ _ h2]
  have hjl:j<es.toList.length:=(A2.1 h2).1;have hother:∀ i x,es.toList[i]? = some x→i≠j→x.key ≠ .int .i64 e.k:=fun i x hi hij=>by
   rw [← h3];obtain ⟨Hw,rfl⟩:=A2.1 hi;obtain ⟨I3,hje⟩:=A2.1 h2;have:=List.pairwise_iff_getElem.1 hM.nd
   rcases Nat.lt_or_ge i j with h | h
   ·rw [← hje];exact this i j Hw I3 h
   ·rw [← hje];exact (this j i I3 Hw (by omega)).symm
  have who:∀ x∈es.toList.set j { e0 with key := .int .i64 e.k,val:=e.val },x={ e0 with key := .int .i64 e.k,val:=e.val }∨(x∈es.toList∧x.key ≠ .int .i64 e.k):=fun x hx=>by
   obtain ⟨i,hi,ex⟩:=List.getElem_of_mem hx;rw [wH] at ex
   split at ex
   ·exact .inl ex.symm
   ·rename_i hne
    have B2:i<es.toList.length:=by simpa using hi
    exact .inr ⟨ex ▸ eT B2,hother i x (by rw [Ap B2,ex]) (fun e=>hne e.symm)⟩
  refine ⟨es.modify j (fun e'=>{ e' with key := .int .i64 e.k,val:=e.val }),cl,?_,⟨fun x hx => ?_,fun x hx => ?_,?_,hok,hkeys,hblks,?_⟩,fun hbn x hx => ?_⟩
  ·simp [Instr.mapUpdate,run_underlying ht,MapKept.run_getObj_map hb,K.check w false hkey,h1,hj,h3,K.stays w hkey,MapKept.run_setObj_map _ hb,Result.andThen,setBlock]
  ·rw [hlist] at hx
   rcases who x hx with rfl | ⟨q1,q2⟩
   ·exact ⟨e,fN.2 (.inr rfl),rfl,rfl⟩
   ·obtain ⟨y,hy,r1,r2⟩:=hM.e1 x q1
    exact ⟨y,fN.2 (.inl ⟨hy,fun hk=>q2 (by rw [r1,hk])⟩),r1,r2⟩
  ·rw [hlist]
   rcases fN.1 hx with ⟨q1,q2⟩ | rfl
   ·obtain ⟨y,hy,r1,r2⟩:=hM.e2 x q1
    obtain ⟨i,hi,rfl⟩:=List.getElem_of_mem hy;have hij:i≠j:=fun hij=>by
     subst hij;rw [Ap hi] at h2;cases h2
     rw [h3] at r1;injection r1 with _ r1;exact q2 r1.symm
    exact ⟨es.toList[i],List.mem_iff_getElem.2 ⟨i,by simpa using hi,by rw [wH,if_neg (Ne.symm hij)]⟩,r1,r2⟩
   ·exact ⟨_,List.mem_iff_getElem.2 ⟨j,by simpa using hjl,by rw [wH,if_pos rfl]⟩,rfl,rfl⟩
  ·rw [hlist,List.pairwise_iff_getElem]
   intro i1 i2 Hw E8 hlt;simp only [nJ] at Hw E8
   have h0:=List.pairwise_iff_getElem.1 hM.nd i1 i2 Hw E8 hlt;rw [wH,wH]
   split
   ·rename_i e1
    rw [if_neg (by omega)]
    exact (hother i2 _ (Ap E8) (by omega)).symm
   ·split
    ·exact hother i1 _ (Ap Hw) (by omega)
    ·exact h0
  ·obtain ⟨y,hy,q1,q2⟩:=hM.e1 e0 (Bf h2)
   have hyk:y.k=e.k:=by rw [h3] at q1;injection q1 with _ q1;exact q1.symm
   rw [hlist,rD hy hyk,sE];apply List.ext_getElem?;intro i;rw [B6,B6,List.getElem?_set];have hoi:(es.toList.map fun x=>(x.key,x.val))[i]? = (L.map fun e=>(Value.int .i64 e.k,e.val))[i]? := by rw [hM.ord]
   rw [B6,B6] at hoi
   by_cases hij:j=i
   ·subst hij
    rw [if_pos rfl,if_pos hjl];rw [h2] at hoi
    cases hL:L[j]? with
    | none=>rw [hL] at hoi;cases hoi
    | some z =>
     rw [hL] at hoi
     have hz:z.k=e.k:=by
      simp at hoi
      rw [h3] at hoi
      have:=hoi.1;injection this with _ h;exact h.symm
     simp [hz]
   ·rw [if_neg hij]
    cases hL:L[i]? with
    | none=>rw [hL] at hoi;rw [hoi];rfl
    | some z =>
     rw [hL] at hoi
     rw [hoi];have hz:z.k≠e.k:=fun hz=>by
      cases he:es.toList[i]? with
      | none=>rw [he] at hoi;cases hoi
      | some x =>
       rw [he] at hoi
       simp at hoi
       exact hother i x he (fun h=>hij h.symm) (by rw [hoi.1,hz])
     simp [hz]
  ·rw [hlist] at hx
   rcases who x hx with rfl | ⟨q1,_⟩
   ·exact hbn e0 (Bf h2)
   ·exact hbn x q1

theorem Ent.owns{e:Ent}(he:e.OK)(h:w.heap[e.b]? = some (.cells e.arr 84 (0,0))):w.ownsRow 0 84 6 e.val e.l.length (e.l.flatten.map (Value.int .i64)) :=
 ⟨by rw [A8,oH he.u],.inr ⟨e.b,e.cap,e.arr,rfl,Nat.zero_le _,h,he.le,he.cap,he.sz,he.at_⟩⟩
theorem bHj:w.ownsRow 0 84 6 (.slice none 0 0) 0 []:=⟨rfl,.inl ⟨rfl,rfl⟩⟩
theorem bHk{v:Value}{l:Lqq}{k:Int}(hk:(Lit.int .i64 k).wf=true)(hl:l≠[])(hu:uni 6 l)(h:w.ownsRow 0 84 6 v l.length (l.flatten.map (Value.int .i64))):∃ e:Ent,e.k=k∧e.l=l∧e.val=v∧e.OK∧w.heap[e.b]? = some (.cells e.arr 84 (0,0)):=by
 rcases h.2 with ⟨_,h0⟩ | ⟨g,cap,cur,rfl,_,h1,h2,h3,h4,h5⟩
 ·exact absurd (aDh h0) hl
 ·exact ⟨⟨k,l,g,cap,cur⟩,rfl,rfl,rfl,⟨hk,h4,h2,h3,h5,hu⟩,h1⟩
end
end
section
variable {P:Program} {C C0:Cx} {M M0:Mem} {w w0:World}

abbrev SR:=St→List (Nat × Obj)→Prop
section
variable {k:Nat} {a b c:Code} {Ψ Ψ1 Ψ':SR} {e:Ex}
end

theorem Sim.slot{st:St}{a:Act}(h:Sim P C0 M0 w0 st a w){i:Nat}{v:Value}(hi:st.t[i]? = some (.p (.v v))):a.tmps.getD i undef=v:=by
 obtain ⟨C,hS,_⟩:=h;have:=hS.at hi
 cases this with
 | p _ _ h=>cases h;rfl
theorem Sim.size{st:St}{a:Act}(h:Sim P C0 M0 w0 st a w):a.tmps.size=st.t.length:=by
 obtain ⟨C,hS,_⟩:=h;exact hS.size
end
section
variable {P:Program} {ops:Array Oper} {md:Region.Mode} {S:World→Prop} {Q:Exit→Act→World→Prop} {L:Nat}

def rB(P:Program)(md:Region.Mode)(ops:Array Oper)(Q:Exit→Act→World→Prop)(S:World→Prop)(L:Nat):Nat→Array Bool→Act→World→Prop
 | 0,listed,a,w=>Region.ready md ops listed=[]∧Q .normal a w
 | fuel+1,listed,a,w=>(Region.ready md ops listed=[]→Q .normal a w) ∧
  ∀ i∈Region.ready md ops listed,wpOp P ops Q i (fun a' w'=>(i≠L→S w')∧rB P md ops Q S L fuel (listed.setIfInBounds i true) a' w') a w

theorem aCi:∀ (fuel:Nat) (listed:Array Bool) (a:Act) (w:World),rB P md ops Q S L fuel listed a w→wpAny P md ops Q fuel listed a w
 | 0,_,_,_,h=>h
 | fuel+1,_,_,_,h=>⟨h.1,fun i hi=>wpOp_mono (fun a' w' h'=>aCi fuel _ a' w' h'.2) (h.2 i hi)⟩

theorem aIm{i:Nat}{oi:Oper}{v:Value}(hi:ops[i]? = some oi)(hsel:∀ (j:Nat) (o:Oper) cs b,ops[j]? = some o→o.op ≠ .select cs b)
  (hQ:∀ c a w,Q (.panic c) (a.put oi.dst v) w→Q (.panic c) a w) (hL:∀ oL,ops[L]? = some oL→∃ e∈oL.after,Region.binds md e=true∧e.on=i) :
  ∀ (fuel:Nat) (listed:Array Bool) (a:Act) (w:World),
   (∀ j oj,ops[j]? = some oj→j≠i→listed.getD j true=false→(∀ e∈oj.after,Region.binds md e=true→e.on≠i)→oi.apart ops oj=true) →
   i∈Region.ready md ops listed→YieldsIf P ops S oi v a→S w →
   rB P md ops Q S L fuel (listed.setIfInBounds i true) (a.put oi.dst v) w→rB P md ops Q S L (fuel+1) listed a w:=by
 intro fuel
 induction fuel with
 | zero =>
  intro listed a w _ hr hy hS H;refine ⟨fun h=>(by rw [h] at hr;cases hr),fun j hj => ?_⟩
  by_cases hji:j=i
  ·subst hji;exact hy.wpOp hi hS ⟨fun _=>hS,H⟩
  ·have:=ready_mono hj hji
   rw [H.1] at this
   cases this
 | succ fuel ih =>
  intro listed a w hfree hr hy hS H;refine ⟨fun h=>(by rw [h] at hr;cases hr),fun j hj => ?_⟩
  by_cases hji:j=i
  ·subst hji;exact hy.wpOp hi hS ⟨fun _=>hS,H⟩
  ·have h1:=H.2 j (ready_mono hj hji)
   obtain ⟨hjun,oj,hoj,hall⟩:=mem_ready.1 hj;have hnot:∀ e∈oj.after,Region.binds md e=true→e.on≠i:=fun e he hb heq=>by
    have h1:=hall e he hb;have h0:=(mem_ready.1 hr).1;rw [heq] at h1
    rcases Nat.lt_or_ge i listed.size with h' | h'
    ·simp [h'] at h0 h1;rw [h0] at h1;cases h1
    ·simp [Array.getElem?_eq_none h'] at h1
   have hjL:j≠L:=fun e=>by
    subst e;obtain ⟨e,he,hb,ho⟩:=hL oj hoj;exact hnot e he hb ho
   have h2:=wpOp_putIf hoj (hfree j oj hoj hji hjun hnot) (fun cs b=>hsel i oi cs b hi) (fun cs b=>hsel j oj cs b hoj) hQ hy h1
   have Ko:∀ k ok,ops[k]? = some ok→k≠i→(listed.setIfInBounds j true).getD k true=false →
     (∀ e∈ok.after,Region.binds md e=true→e.on≠i)→oi.apart ops ok=true:=fun k ok hk hki hun hno=>by
    refine hfree k ok hk hki ?_ hno
    by_cases hjk:j=k
    ·subst hjk;exact hjun
    ·rw [getD_set_ne true hjk] at hun;exact hun
   refine wpOp_mono (fun a' w' h3=>⟨h3.2.1,ih (listed.setIfInBounds j true) a' w' Ko (ready_mono hr (Ne.symm hji)) h3.1 (h3.2.1 hjL) ?_⟩) h2
   rw [Array.setIfInBounds_comm _ _ hji];exact h3.2.2

def aIn(P:Program)(S:World→Prop):List (Oper × Value)→Act→Prop
 | [],_=>True
 | (o,v)::r,a=>(∀ W,S W→(execOp a.eval o).run P W = .ok (.value v) W)∧aIn P S r (a.put o.dst v)
def yG:List (Oper × Value)→Act→Act
 | [],a=>a
 | (o,v)::r,a=>yG r (a.put o.dst v)

def aFq(md:Region.Mode)(ops:Array Oper)(L:Nat)(rs:List Nat):List Nat→Array Bool→Bool
 | [],listed=>chain rs listed
 | t::ts,listed=>(match ops[t]? with | some o=>o.guard.isNone | none=>false) && (Region.ready md ops listed).contains t && Region.free md ops listed t &&
   (match ops[L]? with | some oL=>oL.after.any fun e=>Region.binds md e && e.on == t | none=>false) && aFq md ops L rs ts (listed.setIfInBounds t true)
where chain:List Nat→Array Bool→Bool
 | [],listed=>(Region.ready md ops listed).isEmpty
 | r::rs,listed=>(match ops[r]? with | some o=>o.guard.isNone | none=>false) && decide (Region.ready md ops listed=[r]) && chain rs (listed.setIfInBounds r true)

theorem tX{r fuel:Nat}{listed:Array Bool}{o:Oper}{a:Act}{w:World}(hr:Region.ready md ops listed=[r])(ho:ops[r]? = some o)(hg:o.guard=none){v:Value}{w':World}
  (hrun:(execOp a.eval o).run P w = .ok (.value v) w'∨(execOp a.eval o).run P w = .ok .skip w'∧v=undef) (hS:r≠L→S w') (h:rB P md ops Q S L fuel (listed.setIfInBounds r true) (a.put o.dst v) w'):rB P md ops Q S L (fuel+1) listed a w:=by
 refine ⟨fun h0=>(by rw [hr] at h0;cases h0),fun i hi => ?_⟩
 rw [hr] at hi
 obtain rfl:i=r:=by simpa using hi
 unfold wpOp;simp only [ho];have hw:Region.wanted o (yielded ops a.tmps)=true:=by simp [Region.wanted,hg]
 rw [if_pos hw];refine .inl ?_;unfold Oper.wp
 rcases hrun with hrun | ⟨hrun,rfl⟩
 ·rw [hrun];exact ⟨hS,h⟩
 ·rw [hrun];exact ⟨hS,h⟩

theorem aFr(hsel:Region.noSelect ops=true)(hQ:∀ c a w,¬ Q (.panic c) a w)(rs:List Nat){w:World}(hS:S w):∀ (ts:List Nat) (vs:List Value) (listed:Array Bool) (a:Act),vs.length=ts.length→aFq md ops L rs ts listed=true →
  aIn P S ((ts.filterMap fun i=>ops[i]?).zip vs) a→(∀ Ey,aFq.chain md ops rs Ey=true→rB P md ops Q S L rs.length Ey (yG ((ts.filterMap fun i=>ops[i]?).zip vs) a) w)→rB P md ops Q S L (ts.length+rs.length) listed a w
 | [],vs,listed,a,hl,hB,hy,h=>by
  have:vs=[]:=by simpa using hl
  subst this;simp only [List.length_nil,fE];exact h listed hB
 | t::ts,[],listed,a,hl,hB,hy,h=>by simp at hl
 | t::ts,v::vs,listed,a,hl,hB,hy,h=>by
  simp only [aFq,Bg] at hB
  obtain ⟨⟨⟨⟨hp,hrd⟩,hf⟩,hlast⟩,Oz⟩:=hB;cases ho:ops[t]? with
  | none=>rw [ho] at hp;cases hp
  | some o =>
   rw [ho] at hp
   simp only [Option.isNone_iff_eq_none] at hp
   have e0:(t::ts).filterMap (fun i=>ops[i]?)=o::ts.filterMap (fun i=>ops[i]?):=by simp [ho]
   rw [e0,List.zip_cons_cons] at hy h
   have hw:Region.wanted o (yielded ops a.tmps)=true:=by simp [Region.wanted,hp]
   have e:(t::ts).length+rs.length=(ts.length+rs.length)+1:=by simp;omega
   rw [e];refine aIm ho (Region.noSelect_spec hsel) (fun c a w hq=>absurd hq (hQ _ _ _)) (fun oL hoL => ?_) _ _ _ _ (Region.free_spec ho hf) (by simpa using hrd) (.inl ⟨hw,hy.1⟩) hS ?_
   ·rw [hoL] at hlast
    obtain ⟨e,he,hb⟩:=Array.any_eq_true'.1 hlast;simp only [Bg,beq_iff_eq] at hb
    exact ⟨e,he,hb.1,hb.2⟩
   ·exact aFr hsel hQ rs hS ts vs _ _ (by simpa using hl) Oz hy.2 h

def aIo(l:List Oper)(ts:List Nat)(r1 r2 r3:Nat):Bool :=
 Region.noSelect l.toArray && aFq .any l.toArray r3 [r1,r2,r3] ts (Array.replicate l.toArray.size false) && decide (ts.length+3=l.toArray.size) && decide (r1≠r3∧r2≠r3)

theorem bB{a:Act}{i:Nat}{v:Value}(h:i<a.tmps.size):(a.put (some i) v).eval (.tmp i)=v:=by
 simp [Act.eval,Act.put,h]
theorem bE{a:Act}{i j:Nat}{v:Value}(h:(i == j)=false):(a.put (some i) v).eval (.tmp j)=a.eval (.tmp j):=by
 have:i≠j:=by simpa using h
 simp [Act.eval,Act.put,this]
theorem cQ{a:Act}{i:Nat}{v:Value}:(a.put (some i) v).tmps.size=a.tmps.size:=by simp [Act.put]
end
section
open Go.Maps Go.MapKept
open Go.ChangeMaps (setBlock)
variable {P:Program} {C C0:Cx} {M M0:Mem} {w w0:World}

section
variable {o:Oper} {a:Act} {W W':World}
theorem oQ{t:TypeId}{x:Operand}{v r:Value}(ho:o.op = .load t x)(hx:a.eval x=v)(hr:(Instr.loadAt t v).run P W = .ok r W):(execOp a.eval o).run P W = .ok (.value r) W:=by
 unfold execOp;rw [ho];simp [hx,hr,Result.andThen]
theorem bBy{t:TypeId}{x k:Operand}{v u r:Value}(ho:o.op = .lookup t x k false)(hx:a.eval x=v)(hk:a.eval k=u)(hr:(Instr.lookup t v u false).run P W = .ok r W):(execOp a.eval o).run P W = .ok (.value r) W:=by
 unfold execOp;rw [ho];simp [hx,hk,hr,Result.andThen]
theorem bBz{t:TypeId}{x:Operand}{v r:Value}(ho:o.op = .buildSlice t 1 #[(0,x)])(hx:a.eval x=v)(hr:(Instr.buildSlice t 1 #[(0,v)]).run P W = .ok r W'):(execOp a.eval o).run P W = .ok (.value r) W':=by
 unfold execOp;rw [ho];simp [hx,hr,Result.andThen]
theorem bCa{t:TypeId}{s x:Operand}{v u r:Value}(ho:o.op = .call { callee := .builtin .append,args := #[s,x],argTypes := #[t,t] })(hs:a.eval s=v)(hx:a.eval x=u)(hr:(Builtin.append_ #[t,t] o.type #[v,u]).run P W = .ok r W') :
  (execOp a.eval o).run P W = .ok (.value r) W':=by
 unfold execOp;simp only [ho,resolve,invoke,builtin,Sem.run_bind,Sem.run_pure,Result.andThen_ok,List.map_toArray,gT,List.map_nil,hs,hx,hr]
theorem bCb{t:TypeId}{m k x:Operand}{v u y:Value}(ho:o.op = .mapUpdate t m k x)(hm:a.eval m=v)(hk:a.eval k=u)(hx:a.eval x=y)(hr:(Instr.mapUpdate t v u y).run P W = .ok () W'):(execOp a.eval o).run P W = .ok .skip W':=by
 unfold execOp;rw [ho];simp [hm,hk,hx,hr,Result.andThen]
end

theorem xA{t:Nat}{i:TI}(hi:bU P t=some i)(ha:i.agg=false){b o:Nat}{v:Value}(h:w.cell? ⟨b,o,none⟩=some v):(Instr.loadAt t (.pointer (some ⟨b,o,none⟩))).run P w = .ok v w:=by
 unfold Instr.loadAt Instr.sureAddr;simpa using kC hi ha h

def gB(mb:Nat)(es:Array MapEntry)(cl:Nat)(L:List Ent):List (Nat × Obj):=(mb,.map es cl)::L.map Ent.blk
theorem cJ{mb:Nat}{es:Array MapEntry}{cl:Nat}{L:List Ent}{p:Nat × Obj}:p∈gB mb es cl L↔p=(mb,.map es cl)∨∃ e∈L,e.blk=p:=by simp [gB]
def nS(L:List Ent)(k:Int):Lqq:=match rC L k with
 | some e=>e.l
 | none=>[]
theorem vO{α β:Type}(f:α→β){x y:α}:∀ (L:List α),(L.map f).Nodup→x∈L→y∈L→f x=f y→x=y
 | [],_,h,_,_=>by simp at h
 | a::r,hn,hx,hy,he=>by
  rw [gT,List.nodup_cons] at hn
  rcases gG.1 hx with e1 | h1
  ·rcases gG.1 hy with e2 | h2
   ·rw [e1,e2]
   ·exact absurd (dH.2 ⟨y,h2,by rw [← he,e1]⟩) hn.1
  ·rcases gG.1 hy with e2 | h2
   ·exact absurd (dH.2 ⟨x,h1,by rw [he,e2]⟩) hn.1
   ·exact vO f r hn.2 h1 h2 he
theorem kL.b_inj{mb:Nat}{es:Array MapEntry}{L:List Ent}(h:kL mb es L){e e':Ent}(he:e∈L)(Oy:e'∈L)(hb:e.b=e'.b):e=e':=vO (·.b) L (List.nodup_cons.1 h.blks).2 he Oy hb
theorem kL.b_mb{mb:Nat}{es:Array MapEntry}{L:List Ent}(h:kL mb es L){e:Ent}(he:e∈L):e.b≠mb:=fun hb=>(List.nodup_cons.1 h.blks).1 (dH.2 ⟨e,he,hb⟩)

abbrev Hp:Value := .agg #[.int .i64 0,.int .i64 0,.int .i64 0,.int .i64 0,.int .i64 0,.int .i64 0]
def vsL(x:List Int):List Value:=x.map (Value.int .i64)
theorem bCc(w:World)(x:List Int):∀ j u,(vsL x)[j]? = some u→(w.alloc (.cells (vsL x).toArray 84)).cell? ((⟨w.heap.size,0,none⟩:Addr).add j)=some u:=fun j u h=>by
 have hj:j<(vsL x).length:=(A2.1 h).1;have e:(⟨w.heap.size,0,none⟩:Addr).add j=⟨w.heap.size,j,none⟩:=by unfold Addr.add;split <;> simp_all
 rw [e];unfold World.cell? World.alloc;simp [h]
theorem bNw{t kt S22 ty:TypeId}{st:St}{a:Act}{mb cl:Nat}{es:Array MapEntry}{L:List Ent}{k:Int}{x:List Int}(Jh:x.length=6)(ht:P.underlying t=some (.map kt S22))(hkt:P.underlying kt=some (.int .i64))(Vh:P.underlying S22=some (.slice 84))
  (Ii:(P.info? 84).map (fun i=>(i.zero,i.size,i.bytes))=some (some Hp,6,48))
  (hs:Sim P (C0.with (gB mb es cl L++C0.R)) M0 w0 st a w) (hd:∀ p∈gB mb es cl L,∀ q∈C0.R,p.1≠q.1) (hM:kL mb es L) (hk:(Lit.int .i64 k).wf=true) (hl:∀ e∈L,e.l.length≤1000) :
  ∃ v2 w2 Bq Cp e,(Builtin.append_ #[S22,S22] ty #[oZ L k,.slice (some ⟨w.heap.size,0,none⟩) 1 1]).run P (w.alloc (.cells (vsL x).toArray 84)) = .ok v2 w2 ∧
   (∀ b,b<w.heap.size→(∀ q∈gB mb es cl L,q.1≠b)→w2.heap[b]? = w.heap[b]?)∧w2.heap[mb]? = w.heap[mb]? ∧
   (w.heap.size≤w2.heap.size∧((∀ x∈es.toList,x.born<cl)→∀ x∈Bq.toList,x.born<Cp)∧∀ p∈gB mb Bq Cp (nT L e),(∃ p0∈gB mb es cl L,p0.1=p.1)∨w.heap.size≤p.1) ∧
   (Instr.mapUpdate t (.map (some mb)) (.int .i64 k) v2).run P w2 = .ok () (setBlock w2 mb (.map Bq Cp))∧kL mb Bq (nT L e)∧e.k=k∧e.l=nS L k++[x] ∧
   (∀ p∈gB mb Bq Cp (nT L e),∀ q∈C0.R,p.1≠q.1)∧Sim P (C0.with (gB mb Bq Cp (nT L e)++C0.R)) M0 w0 st a (setBlock w2 mb (.map Bq Cp)):=by
 obtain ⟨i,hi,hz,D9,Ks⟩:=info_parts Ii;have hhas:=hs.has;have hmb:w.heap[mb]? = some (.map es cl):=hhas (mb,.map es cl) (by simp [gB])
 have hmlt:=bM hmb;have hblkh:∀ e∈L,w.heap[e.b]? = some (.cells e.arr 84 (0,0)):=fun e he=>hhas e.blk (by simp [gB];exact .inr (.inl ⟨e,he,rfl⟩))
 obtain ⟨n1,n2,n3⟩:=iG w (.cells (vsL x).toArray 84);have hown:(w.alloc (.cells (vsL x).toArray 84)).ownsRow 0 84 6 (oZ L k) (nS L k).length ((nS L k).flatten.map (Value.int .i64))∧((oZ L k).ownBlock=none∨∃ e0∈L,e0.k=k∧(oZ L k).ownBlock=some e0.b)∧(nS L k).length≤1000:=by
  unfold oZ nS;cases h:rC L k with
  | none=>exact ⟨bHj,.inl rfl,by simp⟩
  | some e0 =>
   obtain ⟨q1,q2⟩:=tY h;exact ⟨Ent.owns (hM.ok e0 q1) ((n3 _ (bM (hblkh e0 q1))).trans (hblkh e0 q1)),.inr ⟨e0,q1,q2,rfl⟩,hl e0 q1⟩
 obtain ⟨ho,hbk,hlen⟩:=hown;have Vi:uni 6 (nS L k++[x]):=by
  intro y hy
  rcases eU.1 hy with h | h
  ·unfold nS at h
   cases hq:rC L k with
   | none=>rw [hq] at h;cases h
   | some e0=>rw [hq] at h;exact (hM.ok e0 (tY hq).1).u y h
  ·simp at h;rw [h];exact Jh
 obtain ⟨v2,w2,hrun,Iz,Gx,hnil,hat⟩:=run_append_own_at (P:=P) (w:=w.alloc (.cells (vsL x).toArray 84)) 0 S22 ty 84 i Hp 6 48 Vh hi hz D9 Ks rfl (by decide) (oZ L k) (nS L k).length _ ho
  ⟨w.heap.size,0,none⟩ 1 1 (vsL x) (by simp [vsL,Jh]) (bCc w x) (fun u hu=>by obtain ⟨z,_,rfl⟩:=dH.1 hu;rfl) (by unfold maxLen;omega) (by omega) (Nat.zero_le _)
 have Qu:w2.ownsRow 0 84 6 v2 (nS L k++[x]).length ((nS L k++[x]).flatten.map (Value.int .i64)):=by
  rw [fK,aDi,eE,List.flatten_singleton];exact Iz
 obtain ⟨e,rfl,hel,rfl,heo,heh⟩:=bHk hk (by simp) Vi Qu
 have hvb:e.val.ownBlock=some e.b:=rfl;have hwhere:(∃ e0∈L,e0.k=e.k∧e0.b=e.b)∨e.b=w.heap.size+1:=by
  rcases hat with h | h
  ·rcases hbk with h0 | ⟨e0,q1,q2,q3⟩
   ·rw [h0,hvb] at h;cases h
   ·rw [q3,hvb] at h;exact .inl ⟨e0,q1,q2,(Option.some.inj h).symm⟩
  ·rw [hvb] at h
   right
   have:=Option.some.inj h;rw [this];simp
 have hrow:∀ b,b<w.heap.size→(∀ e0∈L,e0.k=e.k→e0.b≠b)→w2.heap[b]? = w.heap[b]? := fun b hb hno=>by
  refine (Gx.block b (by omega) (fun he => ?_)).trans (n3 b hb)
  rcases hbk with h0 | ⟨e0,q1,q2,q3⟩
  ·rw [h0] at he;cases he
  ·rw [q3] at he;exact hno e0 q1 q2 (Option.some.inj he).symm
 have hblk:e.b≠mb∧∀ y∈L,y.k≠e.k→y.b≠e.b:=by
  rcases hwhere with ⟨e0,q1,q2,q3⟩ | h
  ·refine ⟨q3 ▸ hM.b_mb q1,fun y hy hyk hb=>hyk ?_⟩
   have:=hM.b_inj hy q1 (hb.trans q3.symm);rw [this];exact q2
  ·refine ⟨by omega,fun y hy _ hb => ?_⟩
   have:=bM (hblkh y hy);omega
 have Hs:w2.heap[mb]? = w.heap[mb]? := hrow mb hmlt fun e0 Nz _=>hM.b_mb Nz
 obtain ⟨Bq,Cp,hup,E1,hbn⟩:=bNx (P:=P) (w:=w2) ht hkt (Hs.trans hmb) hM e heo hblk;refine ⟨e.val,w2,Bq,Cp,e,hrun,fun b hb hno=>hrow b hb fun e0 Nz _=>hno e0.blk (by simp [gB];exact .inr ⟨e0,Nz,rfl⟩),Hs,⟨by have:=Gx.size;omega,hbn,fun p hp => ?_⟩,hup,E1,rfl,hel,?_,?_⟩
 ·rcases cJ.1 hp with rfl | ⟨y,hy,rfl⟩
  ·exact .inl ⟨_,cJ.2 (.inl rfl),rfl⟩
  ·rcases fN.1 hy with ⟨q1,_⟩ | rfl
   ·exact .inl ⟨_,cJ.2 (.inr ⟨y,q1,rfl⟩),rfl⟩
   ·rcases hwhere with ⟨e0,r1,_,r3⟩ | h
    ·exact .inl ⟨_,cJ.2 (.inr ⟨e0,r1,rfl⟩),r3⟩
    ·exact .inr (by show w.heap.size≤y.b;omega)
 ·intro p hp q hq
  rcases cJ.1 hp with rfl | ⟨y,hy,rfl⟩
  ·exact hd (mb,.map es cl) (by simp [gB]) q hq
  ·rcases fN.1 hy with ⟨q1,q2⟩ | rfl
   ·exact hd y.blk (cJ.2 (.inr ⟨y,q1,rfl⟩)) q hq
   ·rcases hwhere with ⟨e0,q1,q2,q3⟩ | h
    ·exact fun hpq=>hd e0.blk (cJ.2 (.inr ⟨e0,q1,rfl⟩)) q hq (by rw [← hpq];exact q3)
    ·have:=bM (hhas q (aAz _ hq))
     intro hpq;change y.b=q.1 at hpq
     omega
 ·have hne:∀ p∈C0.R,p.1≠mb∧∀ e0∈L,p.1≠e0.b:=fun p hp=>⟨fun h=>hd (mb,.map es cl) (by simp [gB]) p hp h.symm,fun e0 Nz h=>hd e0.blk (cJ.2 (.inr ⟨e0,Nz,rfl⟩)) p hp h.symm⟩
  have hset:∀ b,b≠mb→(setBlock w2 mb (.map Bq Cp)).heap[b]? = w2.heap[b]? := fun b hb=>by
   unfold setBlock;simp only [Array.getElem?_setIfInBounds];rw [if_neg (Ne.symm hb)]
  have hsetm:(setBlock w2 mb (.map Bq Cp)).heap[mb]? = some (.map Bq Cp):=by
   unfold setBlock;have:mb<w2.heap.size:=bM (Hs.trans hmb);simp [this]
  refine hs.beside (fun b=>b=mb∨∃ e0∈L,e0.k=e.k∧e0.b=b) (fun b hb => ?_) Gx.os Gx.tape Gx.output (by have:=Gx.size;unfold setBlock;simp only [Array.size_setIfInBounds];omega) (fun b hb hX => ?_) (fun p hp => ?_)
  ·rcases hb with rfl | ⟨e0,q1,q2,rfl⟩
   ·exact ⟨_,mD _ (cJ.2 (.inl rfl))⟩
   ·exact ⟨_,mD _ (cJ.2 (.inr ⟨e0,q1,rfl⟩))⟩
  ·rw [hset b (fun h=>hX (.inl h))]
   exact hrow b hb fun e0 q1 q2 q3=>hX (.inr ⟨e0,q1,q2,q3⟩)
  ·rcases eU.1 hp with hp | hp
   ·rcases cJ.1 hp with rfl | ⟨y,hy,rfl⟩
    ·exact .inr ⟨hsetm,(fun h=>by cases h),.inr ⟨_,mD _ (cJ.2 (.inl rfl))⟩⟩
    ·rcases fN.1 hy with ⟨q1,q2⟩ | rfl
     ·refine .inl ⟨mD _ (cJ.2 (.inr ⟨y,q1,rfl⟩)),fun hX => ?_⟩
      rcases hX with hX | ⟨e0,r1,r2,r3⟩
      ·exact hM.b_mb q1 hX
      ·have:=hM.b_inj q1 r1 r3.symm
       exact q2 (this ▸ r2)
     ·refine .inr ⟨(hset _ hblk.1).trans heh,(fun h=>by cases h),?_⟩
      rcases hwhere with ⟨e0,r1,r2,r3⟩ | h
      ·exact .inr ⟨.cells e0.arr 84 (0,0),mD _ (cJ.2 (.inr ⟨e0,r1,by unfold Ent.blk;rw [r3]⟩))⟩
      ·exact .inl (by show w.heap.size≤y.b;omega)
   ·refine .inl ⟨aAz _ hp,fun hX => ?_⟩
    rcases hX with hX | ⟨e0,r1,r2,r3⟩
    ·exact (hne p hp).1 hX
    ·exact (hne p hp).2 e0 r1 r3.symm
end
section
open Go.ChangeMaps (setBlock)
variable {P:Program} {C:Cx} {M:Mem} {w:World}

def aDr(P:Program)(C:Cx)(M:Mem)(w:World)(C':Cx)(M':Mem)(W:World):Prop:=(∀ b,C'.F b↔C.F b)∧aO P C' M' W∧Fr C M w C' M' W
def aIl(M M':Mem):Prop:=(∀ (i:Nat) (es:List (Value × PV)) (cl:Nat),M'[i]? = some (some (.mp es cl))→∃ o,M[i]? = some (some o)∧o.live=true)∧aNd M'

theorem aDr.same{M':Mem}{W W':World}{C':Cx}(hn:aIl M M')(B1:aO P C M w)(h:aDr P C M w C' M' W)(hsz:W.heap.size≤W'.heap.size)(ho:W'.os=W.os)(ht:W'.tape=W.tape)(hu:W'.output=W.output)
  (hs:∀ b,b<W.heap.size→(b<w.heap.size∧(∀ (id:Nat) (o:AO),M[id]? = some (some o)→o.live=true→C.ι id=some b→∃ o',M'[id]? = some (some o')∧o'.live=true))∨(kJ W b∧∃ (id:Nat) (o:AO),M'[id]? = some (some o)∧o.live=true∧C'.ι id=some b)→W'.heap[b]? = W.heap[b]?):aDr P C M w C' M' W':=by
 obtain ⟨hF,hM,f⟩:=h;have old:∀ (i:Nat) (o:AO),M[i]? = some (some o)→C'.ι i=C.ι i:=fun i o h=>(f.ids i o h).2.1
 have hFz:∀ b,C'.F b→W'.heap[b]? = W.heap[b]? := fun b hb=>hs b (hM.Fs b hb) (.inl ⟨B1.Fs b ((hF b).1 hb),fun id o ho hl he=>absurd ((hF b).1 hb) (B1.nF id o b ho hl he)⟩)
 have hL:Le C' C' M' M' W W':=⟨fun _ o h=>⟨o,h⟩,fun _ _ _ _ _ cs h=>⟨cs,h⟩,fun _ o h o' h' hl=>by rw [h] at h';cases h';exact ⟨hl,rfl,rfl⟩,fun _ h=>h,hFz⟩
 refine ⟨hF,⟨fun i ty n cs hm => ?_,fun i ty cs hm => ?_,fun i es cl hm => ?_,hM.inj,hM.nF,fun b hb=>B5 (hM.Fs b hb) hsz,fun i o b ho hl hb=>B5 (hM.lt i o b ho hl hb) hsz⟩,
  ⟨ho.trans f.os,ht.trans f.tape,hu.trans f.out,fL f.size hsz,fun b hb hno=>(hs b (B5 hb f.size) (.inl ⟨hb,fun id o ho hl he=>absurd he (hno id o ho hl)⟩)).trans (f.keep b hb hno),f.ids,f.row,f.liv,f.new,f.F1,f.F2⟩⟩
 ·rcases hM.row _ _ _ _ hm with h4 | ⟨b,arr,inf,q0,q1,q2,q3,q4,q5,q6,q7,q8⟩
  ·exact .inl h4
  ·exact .inr ⟨b,arr,inf,q0,(hs b (bM q1) (.inr ⟨eI q1,i,_,hm,rfl,q0⟩)).trans q1,q2,q3,q4,q5,q6,fun j hj=>(q7 j hj).mono hL.F hL.fz,q8⟩
 ·obtain ⟨b,arr,q0,q1,q2,q3,q4⟩:=hM.box _ _ _ hm
  exact ⟨b,arr,q0,(hs b (bM q1) (.inr ⟨eI q1,i,_,hm,rfl,q0⟩)).trans q1,q2,fun j hj=>(q3 j hj).mono hL,q4⟩
 ·obtain ⟨b,arr,q0,q1,q2,q3⟩:=hM.mp _ _ _ hm
  obtain ⟨o,Co,hl⟩:=hn.1 _ _ _ hm;have hb:C.ι i=some b:=by rw [← old i o Co];exact q0
  refine ⟨b,arr,q0,(hs b (bM q1) (.inl ⟨B1.lt i o b Co hl hb,fun id o2 Iz Bu he => ?_⟩)).trans q1,q2,fun j hj => ?_⟩
  ·obtain rfl:=B1.inj id i o2 o b Iz Bu Co hl he hb
   exact ⟨_,hm,rfl⟩
  ·obtain ⟨en,r1,r2,r3,r4⟩:=q3 j hj
   exact ⟨en,r1,r2,r3,r4.mono hL.F hL.fz⟩

theorem aDr.own{M':Mem}{W W':World}{C':Cx}{row:Option Nat}(hn:aIl M M')(B1:aO P C M w)(h:aDr P C M w C' M' W)(hg:W.grownBy W' row)
  (hr:∀ r,row=some r→w.heap.size≤r∧∃ o:Obj,W.heap[r]? = some o∧o.isCells=false):aDr P C M w C' M' W' :=
 h.same hn B1 hg.size hg.os hg.tape hg.output fun b hb hd=>hg.block b hb fun e=>by
  obtain ⟨q1,o,q2,q3⟩:=hr b e.symm
  rcases hd with ⟨hd,_⟩ | ⟨hd,_⟩
  ·omega
  ·exact iJ q2 q3 hd
end
end KV
end Go.Proofs
section
namespace Go.Proofs
open Go.RowKit Go.Lib
namespace KV
open Tryz
attribute [local go_sem] Oper.semAt_some

def bk(n i:Nat):List Nat:=((List.range n).drop i).reverse
theorem bNu{n i:Nat}(h:i<n):bk n i=bk n (i+1)++[i]:=by
 unfold bk;rw [aWm (by simpa using h),List.reverse_cons]
 simp
theorem bWc(n:Nat):bk n n=[]:=by unfold bk;rw [List.drop_eq_nil_of_le (by simp)];rfl
theorem bNv(n:Nat):bk n 0=(List.range n).reverse:=rfl
theorem aRg{n i:Nat}:(bk n i).length=n-i:=by simp [bk]
theorem bBx{n i:Nat}(h:i≤n):bk n i <+: bk n 0:=by
 unfold bk;rw [List.drop_zero];refine ⟨((List.range n).take i).reverse,?_⟩;rw [← List.reverse_append,aWn]
theorem bXv{n i:Nat}(h:i<n):(bk n (i+1)).length<(bk n 0).length:=by rw [aRg,aRg];omega
end KV
end Go.Proofs
end
section
namespace Go.Proofs
open Go.RowKit Go.Lib Go.Shelf
namespace KV
open Tryz
attribute [local go_sem] Oper.semAt_some
def Hid(p:Prop):Prop:=p
theorem hid{p:Prop}(h:p):Hid p:=h
theorem Hid.out{p:Prop}(h:Hid p):p:=h
def B4(x:List Int):Array Value:=(x.map (Value.int .i64)).toArray
set_option maxRecDepth 1000000 in
set_option maxHeartbeats 2000000 in
theorem aRe(dc:Lqq)(hl:dc.length≤1000)(F0:Nat→Prop)(n l b1 o1 b2 o2 cap:Nat)(hn:1≤n)(J Jx:List Nat→World→Prop)
  (hY:∀ pre (k:Nat) (a b c d e f:Int) W,dc[k]? = some [a,b,c,d,e,f]→J pre W→pre.length<(bk dc.length 0).length→YieldAt Fence.wide (n-1) Tp l #[.int .i64 k,.agg #[.int .i64 a,.int .i64 b,.int .i64 c,.int .i64 d,.int .i64 e,.int .i64 f]] W fun e W' =>
   (e = .returned (.bool true)∧J (pre++[k]) W'∧KpG F0 W W')∨(e = .returned (.bool false)∧Jx (pre++[k]) W'))
  (W:World) (hJ:AbidesFrom W.heap.size J) (hF:∀ b,F0 b→b<W.heap.size)
  (hc:∀ W',KpG F0 W W'→∀ k:Nat,k<dc.length→∃ a b c d e f,dc[k]? = some [a,b,c,d,e,f]∧W'.cell? ⟨b2,o2+k*6,none⟩=some (.int .i64 a)∧W'.cell? ⟨b2,o2+k*6+1,none⟩=some (.int .i64 b)∧W'.cell? ⟨b2,o2+k*6+2,none⟩=some (.int .i64 c)∧W'.cell? ⟨b2,o2+k*6+3,none⟩=some (.int .i64 d)∧W'.cell? ⟨b2,o2+k*6+4,none⟩=some (.int .i64 e)∧W'.cell? ⟨b2,o2+k*6+5,none⟩=some (.int .i64 f))
  (hk:∀ W',KpG F0 W W'→W'.cell? ⟨b1,o1,none⟩=some (.slice (some ⟨b2,o2,none⟩) dc.length cap)) (h0:J [] W) :
  CallsIn Fence.wide n Tp 157 #[.func (.yield l) #[] #[],.pointer (some ⟨b1,o1,none⟩)] W fun e W'=>(∃ v,e = .returned v) ∧
   ((∃ ys,ys=bk dc.length 0∧J ys W')∨(∃ pre,pre <+: bk dc.length 0∧Jx pre W')):=by
 have HJ:=hid hJ;have HY:=hid hY;have HC:=hid hc;have HKC:=hid hk;have HF0:=hid hF;have HJ0:=hid h0;have k0:=hk W (KpG.refl _ _);clear hJ hY hc h0 hk hF;refine callsIn_of_wp func157 rfl trivial ?_ rfl;simp only [Tryz.ntmps157,List.size_toArray,pY,List.length_nil,Nat.reduceAdd,Nat.reduceSub,Array.replicate_succ,Array.replicate_zero,List.push_toArray,List.append_toArray,List.nil_append,List.cons_append]
 gi_wp2
 clear k0
 gi_loopw [3] (fun i wr=>∃ k:Nat,k≤dc.length∧i = .int .i64 ((k:Int)-1)∧J (bk dc.length k) wr∧KpG F0 W wr)
  (fun i _=>(intOf i+1).toNat)
 case atStart=>exact ⟨dc.length,cP _,by go_num,by rw [bWc];exact HJ0.out,KpG.refl _ _⟩
 case round =>
  obtain ⟨k,hk,rfl,hJk,hK⟩:=hrel;have HJK:=hid hJk;have HK:=hid hK;have k0:=HKC.out wr hK;have HFR:=hid (fun b (hb:F0 b)=>B5 (HF0.out b hb) HK.out.size)
  clear hJk hK
  rcases Nat.eq_zero_or_pos k with rfl | hpos
  ·gi_wp2
   go_end0
   exact ⟨⟨_,rfl⟩,.inl ⟨_,rfl,HJK.out⟩⟩
  ·obtain ⟨k,rfl⟩:∃ j,k=j+1:=⟨k-1,by omega⟩
   have e1:((k+1:Nat):Int)-1=(k:Int):=by omega
   have hlt:(k:Int)<(dc.length:Int):=by omega
   have Vg:(dc.length:Int)≤1000:=by omega
   rw [e1];obtain ⟨a,b,c,d,e,f,Pe,c0,c1,c2,c3,c4,c5⟩:=HC.out wr HK.out k (by omega)
   have HL:=hid (bXv (n:=dc.length) (i:=k) (by omega))
   have HB:=hid (bNu (n:=dc.length) (i:=k) (by omega))
   have HP:=hid (bBx (n:=dc.length) (i:=k) (by omega))
   have hge:(k:Int) ≥ 0:=by omega
   obtain ⟨fn,tmps,assign,body,hy,hR⟩:=HY.out _ k a b c d e f wr Pe HJK.out HL.out;clear Pe
   gi_wp2_with (refine hR.mono ?_;clear hR;rintro e w3 (⟨rfl,Qt,Nf⟩ | ⟨rfl,hx⟩))
   ·go_roundw
    case rel=>exact ⟨k,by omega,by go_num,by rw [HB.out];exact Qt,HK.out.trans Nf⟩
    case measure=>simp [intOf]
   ·refine bodyPost_ret (results_none rfl _ _ _) rfl ?_
    exact ⟨⟨_,rfl⟩,.inr ⟨bk dc.length (k+1)++[k],HB.out ▸ HP.out,hx⟩⟩
set_option maxRecDepth 1000000 in
set_option maxHeartbeats 2000000 in
theorem aRf(n l b1 o1 cap:Nat)(p:Option Addr)(hn:1≤n)(J:World→Prop)(W:World)(hk:W.cell? ⟨b1,o1,none⟩=some (.slice p 0 cap))(h0:J W) :
  CallsIn Fence.wide n Tp 157 #[.func (.yield l) #[] #[],.pointer (some ⟨b1,o1,none⟩)] W fun e W'=>(∃ v,e = .returned v)∧J W':=by
 have HJ0:=hid h0;have k0:=hk;clear h0 hk;refine callsIn_of_wp func157 rfl trivial ?_ rfl;simp only [Tryz.ntmps157,List.size_toArray,pY,List.length_nil,Nat.reduceAdd,Nat.reduceSub,Array.replicate_succ,Array.replicate_zero,List.push_toArray,List.append_toArray,List.nil_append,List.cons_append]
 gi_wp2
 clear k0
 gi_loopw [3] (fun i wr=>i = .int .i64 (-1)∧J wr) (fun i _=>(intOf i+1).toNat)
 case atStart=>exact ⟨by go_num,HJ0.out⟩
 case round =>
  obtain ⟨rfl,hJk⟩:=hrel;have HJK:=hid hJk;clear hJk
  gi_wp2
  go_end0
  exact ⟨⟨_,rfl⟩,HJK.out⟩
end KV
end Go.Proofs
end
namespace Go.Proofs
namespace KV
open Tryz
section
variable {P:Program} {ops:Array Oper} {md:Region.Mode} {Q:Exit→Act→World→Prop} {F:Fence} {n:Nat}

def VS(P:Program)(m:Sem Next):Prop:=∀ w,(∃ v w',m.run P w = .ok (.value v) w')∨(∃ w',m.run P w = .ok .skip w')∨∃ x w',m.run P w = .halt x w'
theorem VS.val(m:Sem Value):VS P (do pure (.value (← m))):=fun w=>by
 cases h:m.run P w with
 | ok v w'=>exact .inl ⟨v,w',by simp [h,Result.andThen]⟩
 | halt x w'=>exact .inr (.inr ⟨x,w',by simp [h,Result.andThen]⟩)
theorem VS.unit(m:Sem Unit):VS P (do m;pure .skip):=fun w=>by
 cases h:m.run P w with
 | ok v w'=>exact .inr (.inl ⟨w',by simp [h,Result.andThen]⟩)
 | halt x w'=>exact .inr (.inr ⟨x,w',by simp [h,Result.andThen]⟩)
theorem VS.bind{α:Type}(m:Sem α)(f:α→Sem Next)(h:∀ x,VS P (f x)):VS P (m >>= f):=fun w=>by
 cases e:m.run P w with
 | ok v w' =>
  rcases h v w' with ⟨u,w2,q⟩ | ⟨w2,q⟩ | ⟨x,w2,q⟩
  ·exact .inl ⟨u,w2,by simp [e,Result.andThen,q]⟩
  ·exact .inr (.inl ⟨w2,by simp [e,Result.andThen,q]⟩)
  ·exact .inr (.inr ⟨x,w2,by simp [e,Result.andThen,q]⟩)
 | halt x w'=>exact .inr (.inr ⟨x,w',by simp [e,Result.andThen]⟩)
theorem VS.pure(v:Value):VS P (Pure.pure (.value v):Sem Next):=fun w => .inl ⟨v,w,rfl⟩
def yF(o:Oper):Bool:=match o.op with
 | .move _=>true
 | .assign _=>true
 | .indexAddr _ _ _=>true
 | .fieldAddr _ _ _=>true
 | .field _ _ _=>true
 | .load _ _=>true
 | .store _ _ _=>true
 | .lookup _ _ _ _=>true
 | .buildSlice _ _ _=>true
 | .mapUpdate _ _ _ _=>true
 | .nilCheck _=>true
 | .call c=>match c.callee with
  | .builtin .append=>true
  | _=>false
 | _=>false
theorem bNt{o:Oper}(h:yF o=true)(ρ:Operand→Value):VS P (execOp ρ o):=by
 unfold yF at h
 unfold execOp;cases ho:o.op <;> rw [ho] at h <;> first | exact absurd h Bool.false_ne_true | exact VS.val _ | exact VS.unit _ | skip
 case move x=>exact fun w => .inl ⟨_,w,rfl⟩
 case assign x=>exact fun w => .inl ⟨_,w,rfl⟩
 case nilCheck x =>
  dsimp only
  split
  ·exact fun w => .inr (.inr ⟨_,_,rfl⟩)
  ·exact fun w => .inr (.inr ⟨_,_,rfl⟩)
  ·exact fun w => .inr (.inr ⟨_,_,rfl⟩)
  ·split
   ·exact fun w => .inr (.inr ⟨_,_,rfl⟩)
   ·refine VS.bind _ _ fun p=>VS.bind _ _ fun q => ?_
    split
    ·exact VS.bind _ _ fun _=>VS.pure _
    ·exact VS.pure _
   ·exact VS.pure _
  ·exact VS.pure _
 case call c =>
  dsimp only at h
  show VS P (resolve ρ c o.type >>= fun d=>invoke d.target d.args)
  split at h
  ·rename_i hc
   unfold resolve;rw [hc];exact VS.val _
  ·cases h
theorem aRd{o:Oper}(h:yF o=true):∀ c,o.op ≠ .defer c:=fun c hc=>by unfold yF at h;rw [hc] at h;cases h

theorem aMa(hall:∀ f,F.fn f){i:Nat}{K:Act→World→Prop}{a:Act}{w:World}(hL:¬ LetsOut Q)(hc:∀ o,ops[i]? = some o→yF o=true)(h:wpOp P ops Q i K a w):wpOpIn F n P ops Q i K a w:=by
 unfold wpOp at h
 unfold wpOpIn;cases ho:ops[i]? with
 | none=>rw [ho] at h;exact h
 | some o =>
  rw [ho] at h
  dsimp only at h ⊢
  split
  ·rename_i hw
   rw [if_pos hw] at h
   rcases h with h | h
   ·unfold Oper.wp at h
    unfold Oper.wpIn;refine ⟨fun f _=>hall f,?_⟩
    rw [Oper.semAt_plain _ _ _ (aRd (hc o ho))]
    rcases bNt (P:=P) (hc o ho) a.eval w with ⟨v,w',e⟩ | ⟨w',e⟩ | ⟨x,w',e⟩
    ·rw [e] at h ⊢;exact h
    ·rw [e] at h ⊢;exact h
    ·rw [e] at h ⊢
     cases x <;> first | exact h | exact h.elim
   ·exact absurd h.2 hL
  ·rename_i hw
   rw [if_neg hw] at h
   exact ⟨fun f _=>hall f,h⟩
theorem vN(hall:∀ f,F.fn f)(hL:¬ LetsOut Q)(hc:∀ (i:Nat) (o:Oper),ops[i]? = some o→yF o=true):∀ (fuel:Nat) (listed:Array Bool) (a:Act) (w:World),wpAny P md ops Q fuel listed a w→wpAnyIn F n P md ops Q fuel listed a w
 | 0,_,_,_,h=>h
 | fuel+1,listed,a,w,h=>⟨h.1,fun i hi=>wpOpIn_mono (fun a' w' h'=>vN hall hL hc fuel _ a' w' h') (aMa hall hL (hc i) (h.2 i hi))⟩

theorem bBw{S:World→Prop}{id:Nat}{l:List Oper}{a:Act}{w:World}{o1 o2 o3:Oper}(hall:∀ f,F.fn f)(hL:¬ LetsOut Q)(hcalm:l.all yF=true)(ts:List Nat)(r1 r2 r3:Nat)(hm:P.follows .mixedOrders=true)(hB:aIo l ts r1 r2 r3=true)(h1:l[r1]? = some o1)(h2:l[r2]? = some o2)(h3:l[r3]? = some o3)
  (hQ:∀ c a w,¬ Q (.panic c) a w) (hS:S { w with drawn:=w.drawn+1 }) (vs:List Value) (hl:vs.length=ts.length) (hy:aIn P S ((ts.filterMap fun i=>l[i]?).zip vs) a)
  (h:∀ a',a'=yG ((ts.filterMap fun i=>l[i]?).zip vs) a→∃ v1 w1 v2 w2 w3,(execOp a'.eval o1).run P { w with drawn:=w.drawn+1 } = .ok (.value v1) w1∧S w1∧(execOp (a'.put o1.dst v1).eval o2).run P w1 = .ok (.value v2) w2∧S w2 ∧
   (execOp ((a'.put o1.dst v1).put o2.dst v2).eval o3).run P w2 = .ok .skip w3∧Q .normal (((a'.put o1.dst v1).put o2.dst v2).put o3.dst undef) w3):(Code.region id l.toArray true).wpIn F n P Q a w:=by
 unfold aIo at hB
 simp only [Bg,decide_eq_true_eq] at hB
 obtain ⟨⟨⟨hsel,ht⟩,hsz⟩,hne⟩:=hB;refine wpIn_region_any hm (vN hall hL (fun i o ho=>fD.1 hcalm o (Bf (by simpa using ho))) _ _ _ _ (aCi (S:=S) (L:=r3) _ _ _ _ ?_))
 rw [← hsz];refine aFr (rs:=[r1,r2,r3]) hsel hQ hS ts vs _ a hl (by rw [hsz];exact ht) (by simpa using hy) (fun Ey hc => ?_)
 obtain ⟨v1,w1,v2,w2,w3,e1,s1,e2,s2,e3,hq⟩:=h _ rfl;simp only [aFq.chain,Bg,decide_eq_true_eq] at hc
 obtain ⟨⟨g1,c1⟩,⟨g2,c2⟩,⟨g3,c3⟩,c4⟩:=hc;have k1:l.toArray[r1]? = some o1:=by simpa using h1
 have k2:l.toArray[r2]? = some o2:=by simpa using h2
 have k3:l.toArray[r3]? = some o3:=by simpa using h3
 rw [k1] at g1;rw [k2] at g2;rw [k3] at g3
 simp only [Option.isNone_iff_eq_none] at g1 g2 g3
 have Ih:((ts.filterMap fun i=>l.toArray[i]?))=(ts.filterMap fun i=>l[i]?):=by simp
 rw [Ih];refine tX c1 k1 g1 (.inl e1) (fun _=>s1) ?_
 refine tX c2 k2 g2 (.inl e2) (fun _=>s2) ?_
 refine tX c3 k3 g3 (.inr ⟨e3,rfl⟩) (fun h=>absurd rfl h) ?_
 exact ⟨by simpa using c4,hq⟩
end
section
open Go.ChangeMaps (setBlock)
variable {P:Program} {C:Cx} {M:Mem} {w:World}

theorem bNs{M':Mem}(hM:aO P C M w)(h1:∀ (i:Nat) (o:AO),M'[i]? = some (some o)→M[i]? = some (some o))
  (h2:∀ (i ty:Nat) (cs:List AV),M'[i]? = some (some (.box ty cs))→∀ x∈cs,∀ u,Rep C M w x u→Rep C M' w x u):aO P C M' w:=by
 refine ⟨fun i ty n cs hm=>hM.row _ _ _ _ (h1 _ _ hm),fun i ty cs hm => ?_,fun i es cl hm=>hM.mp _ _ _ (h1 _ _ hm),fun i i' o o' b q1 q2 q3 q4=>hM.inj i i' o o' b (h1 _ _ q1) q2 (h1 _ _ q3) q4,fun i o b q1=>hM.nF i o b (h1 _ _ q1),hM.Fs,fun i o b q1=>hM.lt i o b (h1 _ _ q1)⟩
 obtain ⟨b,arr,q0,q1,q2,q3,q4⟩:=hM.box _ _ _ (h1 _ _ hm);exact ⟨b,arr,q0,q1,q2,fun j hj=>h2 _ _ _ hm _ (eT hj) _ (q3 j hj),q4⟩
theorem aLy{M':Mem}{i off:Nat}{u:Value}(hi:M'[i]? = M[i]?)(h:Rep C M w (.ptr i off) u):Rep C M' w (.ptr i off) u:=by
 cases h with
 | ptr _ _ _ h0 ha h hp=>exact .ptr i off u h0 (by rw [hi];exact ha) (by rw [hi];exact h) hp
theorem aRc{M':Mem}{i:Nat}{u:Value}(hi:M'[i]? = M[i]?)(h:Rep C M w (.mp i) u):Rep C M' w (.mp i) u:=by
 cases h with
 | mp _ _ h0 ha h=>exact .mp i u h0 (by rw [hi];exact ha) (by rw [hi];exact h)
theorem sA{M':Mem}{x:PV}{u:Value}(h:Rep C M w (.p x) u):Rep C M' w (.p x) u:=by
 cases h with
 | p _ _ h=>exact .p _ _ h

theorem aLz{b ty k:Nat}{cs:List PV}{arr:Array Value}(hM:aO P C M w)(hf:yM M k)(hh:w.heap[b]? = some (.cells arr ty (0,0)))(hnF:¬ C.F b)(hnl:∀ (id:Nat) (o:AO),M[id]? = some (some o)→o.live=true→C.ι id≠some b)
  (hs:arr.size=cs.length) (hrep:∀ j (h:j<cs.length),bW C.F w cs[j] (arr.getD j undef)) (h1:∀ j,j<cs.length→(arr.getD j undef).oneCell'=true) :
  aO P (C.grow k b 1) (aT M k (some (.box ty (cs.map .p)))) w∧Le C (C.grow k b 1) M (aT M k (some (.box ty (cs.map .p)))) w w:=by
 have hne:∀ (j:Nat) (o':AO),M[j]? = some (some o')→j≠k:=fun j o' h e=>hf o' (e ▸ h)
 have hold:∀ (j:Nat) (o':AO),j≠k→(aT M k (some (.box ty (cs.map .p))))[j]? = some (some o')→M[j]? = some (some o'):=fun j o' h=>(aN M k j _ o' (fun e=>h e.symm)).1
 have hfw:∀ (j:Nat) (o':AO),M[j]? = some (some o')→(aT M k (some (.box ty (cs.map .p))))[j]? = some (some o'):=fun j o' h=>(aN M k j _ o' (fun e=>hne j o' h e.symm)).2 h
 have hι:∀ j,j≠k→(C.grow k b 1).ι j=C.ι j:=fun j h=>by simp [Cx.grow,h]
 have hκ:∀ j,j≠k→(C.grow k b 1).κ j=C.κ j:=fun j h=>by simp [Cx.grow,h]
 have hιs:(C.grow k b 1).ι k=some b:=by simp [Cx.grow]
 have hle:Le C (C.grow k b 1) M (aT M k (some (.box ty (cs.map .p)))) w w:=by
  refine ⟨fun j o h=>⟨o,hfw j o h⟩,fun j o h Cb n' A9 hm=>⟨A9,hold j _ (hne j o h) hm⟩,fun j o h o' hm hl => ?_,fun _ h=>h,fun _ _=>rfl⟩
  have:=hold j _ (hne j o h) hm;rw [h] at this;cases this
  exact ⟨hl,hι j (hne j o h),hκ j (hne j o h)⟩
 have hnew:∀ (o':AO),(aT M k (some (.box ty (cs.map .p))))[k]? = some (some o')→o' = .box ty (cs.map .p):=fun o' h=>by rw [aS] at h;cases h;rfl
 refine ⟨⟨fun j Cb n' A9 hm => ?_,fun j Cb A9 hm => ?_,fun j es cl hm => ?_,fun j j' o1 o2 b' hm hl B8 Cy Ce D4 => ?_,fun j o' b' hm hl Aj => ?_,hM.Fs,fun j o' b' hm hl Aj => ?_⟩,hle⟩
 ·by_cases e:j=k
  ·subst e;cases hnew _ hm
  ·rw [hι j e,hκ j e]
   rcases hM.row _ _ _ _ (hold j _ e hm) with h4 | ⟨b,arr,inf,q0,q1,q2,q3,q4,q5,q6,q7,q8⟩
   ·exact .inl h4
   ·exact .inr ⟨b,arr,inf,q0,q1,q2,q3,q4,q5,q6,fun j hj=>(q7 j hj).mono hle.F hle.fz,q8⟩
 ·by_cases e:j=k
  ·subst e
   cases hnew _ hm;refine ⟨b,arr,hιs,hh,by simpa using hs,fun i hi => ?_,fun i hi=>h1 i (by simpa using hi)⟩
   rw [kD];exact .p _ _ (hrep i (by simpa using hi))
  ·rw [hι j e]
   obtain ⟨b,arr,q0,q1,q2,q3,q4⟩:=hM.box _ _ _ (hold j _ e hm);exact ⟨b,arr,q0,q1,q2,fun j hj=>(q3 j hj).mono hle,q4⟩
 ·by_cases e:j=k
  ·subst e;cases hnew _ hm
  ·rw [hι j e]
   obtain ⟨b,arr,q0,q1,q2,q3⟩:=hM.mp _ _ _ (hold j _ e hm);refine ⟨b,arr,q0,q1,q2,fun j hj => ?_⟩
   obtain ⟨en,r1,r2,r3,r4⟩:=q3 j hj;exact ⟨en,r1,r2,r3,r4.mono hle.F hle.fz⟩
 ·by_cases e:j=k
  ·by_cases e':j'=k
   ·rw [e,e']
   ·subst e
    rw [hιs] at Ce;cases Ce
    rw [hι j' e'] at D4
    exact absurd D4 (hnl _ _ (hold j' _ e' B8) Cy)
  ·by_cases e':j'=k
   ·subst e'
    rw [hιs] at D4;cases D4
    rw [hι j e] at Ce
    exact absurd Ce (hnl _ _ (hold j _ e hm) hl)
   ·rw [hι j e] at Ce;rw [hι j' e'] at D4
    exact hM.inj _ _ _ _ _ (hold j _ e hm) hl (hold j' _ e' B8) Cy Ce D4
 ·by_cases e:j=k
  ·subst e
   rw [hιs] at Aj;cases Aj
   exact hnF
  ·rw [hι j e] at Aj
   exact hM.nF _ _ _ (hold j _ e hm) hl Aj
 ·by_cases e:j=k
  ·subst e
   rw [hιs] at Aj;cases Aj
   exact bM hh
  ·rw [hι j e] at Aj
   exact hM.lt _ _ _ (hold j _ e hm) hl Aj
end
end KV
end Go.Proofs
section
namespace Go.Proofs
open Go.RowKit Go.Lib Go.Shelf
namespace KV
open Tryz
abbrev Bk(dc:Lqq):={ k:Nat // k<dc.length }
def lG(dc:Lqq)(k:Nat):List Int:=dc.getD k []
abbrev aLv(dc:Lqq):AV := .fn 157 [] [(.rp [(.sl dc.length (dc.flatten.map aA))] 0)]
theorem bXt{F:Nat→Prop}{w:World}{n:Int}{u:Value}(h:bW F w (aA n) u):u = .int .i64 n:=by unfold aA at h;cases h;rfl
theorem bNp{dc:Lqq}(hu:uni 6 dc){k j:Nat}{x:List Int}(hx:dc[k]? = some x)(hj:j<6):dc.flatten[k*6+j]? = some (x.getD j 0):=by
 have hk:k<dc.length:=(A2.1 hx).1
 induction dc generalizing k with
 | nil=>simp at hk
 | cons y r ih =>
  have hy:y.length=6:=hu y (jI ..);rw [uZ];cases k with
  | zero =>
   simp at hx;subst hx
   rw [Nat.zero_mul,fE,aAy (by omega),Bj,Ap (by omega)];rfl
  | succ k =>
   rw [aAx (by omega),hy,show (k+1)*6+j-6=k*6+j by omega]
   exact ih (fun z hz=>hu z (B7 _ hz)) (by simpa using hx) (by simpa using hk)
theorem bWa{F:Nat→Prop}{w:World}{n:Nat}{cs:List PV}{v:Value}(h:bW F w (.sl n cs) v):∃ (p:Option Addr) (cap:Nat) (us:Nat→Value),v = .slice p n cap∧(∀ i,i<cs.length→∃ b o,p=some ⟨b,o,none⟩∧F b∧w.cell? ⟨b,o+i,none⟩=some (us i))∧∀ i (h:i<cs.length),bW F w cs[i] (us i):=by
 cases h with
 | sl _ _ p cap us g1 g2 g3 g4 g5=>exact ⟨p,cap,us,rfl,g3,g4⟩
theorem bBv(dc:Lqq)(hu:uni 6 dc)(hl:dc.length≤1000):bQz Tp (aLv dc) (fun x:Bk dc => #[Value.int .i64 (x.1:Nat),.agg (B4 (lG dc x.1))]) 157 dc.length (fun ys=>ys.map (fun x=>x.1)=bk dc.length 0):=fun C M w u Mv hFs=>by
 cases Mv with
 | fn _ _ _ us vs h1 h2 h3 h4 =>
  obtain rfl:us = #[]:=by simpa using h1
  have q0:=h4 0 (by simp)
  simp only [List.getElem_cons_zero] at q0
  obtain ⟨x0,rfl⟩:∃ x0,vs = #[x0]:=by
   have:vs.toList.length=1:=by simpa using h2
   match hv:vs.toList,this with
   | [x0],_=>exact ⟨x0,by rw [← hv]⟩
  change Rep C M w (.rp [.sl dc.length (dc.flatten.map aA)] 0) x0 at q0
  cases q0 with
  | rp _ _ b1 o1 u1 e1 e2 e3 =>
   have r0:=e2 0 (by simp)
   change bW C.F w (.sl dc.length (dc.flatten.map aA)) (u1 0) at r0
   have c0:=e1 0 (by simp)
   obtain ⟨p,cap,us2,hv,g3,g4⟩:=bWa r0;rw [hv] at c0
   clear r0 hv
   ·have hlf:(dc.flatten.map aA).length=dc.length*6:=by rw [A8,oH hu]
    refine ⟨_,fun pre=>True,rfl,fun l J Jx W hW hJ _ hY h0 => ?_⟩
    have hsame:∀ W',KpG C.F W W'→∀ b,C.F b→W'.heap[b]? = w.heap[b]? := fun W' hk b hb=>(hk.same b hb).trans (hW.block b (hFs b hb))
    obtain ⟨b2,o2,hp⟩:∃ b2 o2,dc.length=0∨p=some ⟨b2,o2,none⟩:=by
     by_cases hz:dc.length=0
     ·exact ⟨0,0,.inl hz⟩
     ·obtain ⟨b,o,h,_⟩:=g3 0 (by omega)
      exact ⟨b,o,.inr h⟩
    have hcell:∀ W',KpG C.F W W'→∀ k:Nat,k<dc.length→∃ a b c d e f,dc[k]? = some [a,b,c,d,e,f]∧W'.cell? ⟨b2,o2+k*6,none⟩=some (.int .i64 a)∧W'.cell? ⟨b2,o2+k*6+1,none⟩=some (.int .i64 b)∧W'.cell? ⟨b2,o2+k*6+2,none⟩=some (.int .i64 c)∧W'.cell? ⟨b2,o2+k*6+3,none⟩=some (.int .i64 d)∧W'.cell? ⟨b2,o2+k*6+4,none⟩=some (.int .i64 e)∧W'.cell? ⟨b2,o2+k*6+5,none⟩=some (.int .i64 f):=fun W' hk k hkn=>by
     obtain ⟨a,b,c,d,e,f,hx⟩:=R3 hu (i:=k) (by omega)
     have one:∀ j,j<6→W'.cell? ⟨b2,o2+(k*6+j),none⟩=some (.int .i64 ([a,b,c,d,e,f].getD j 0)):=fun j hj=>by
      have hi:k*6+j<(dc.flatten.map aA).length:=by omega
      obtain ⟨b',o',q1,q2,q3⟩:=g3 (k*6+j) hi
      rcases hp with hp | hp
      ·omega
      ·rw [hp] at q1
       cases q1;rw [dR (hsame W' hk b2 q2),q3];have:=g4 (k*6+j) hi;have he:(dc.flatten.map aA)[k*6+j]=aA ([a,b,c,d,e,f].getD j 0):=by
        have h5:=bNp hu hx hj;rw [kD]
        congr 1
        obtain ⟨_,h6⟩:=A2.1 h5;exact h6
       rw [he] at this
       rw [bXt this]
     exact ⟨a,b,c,d,e,f,hx,one 0 (by omega),one 1 (by omega),one 2 (by omega),one 3 (by omega),one 4 (by omega),one 5 (by omega)⟩
    by_cases hz:dc.length=0
    ·-- nothing to yield: any address will do
     have h2:bk dc.length 0=[]:=by unfold bk;rw [hz];rfl
     rw [hz] at c0
     refine (aRf 2 l b1 o1 cap p (by omega) (J []) W ((dR (hsame W (KpG.refl _ _) b1 c0.1) _).trans c0.2) h0).mono ?_
     rintro e W' ⟨h5,h6⟩;exact ⟨h5,.inl ⟨[],by rw [h2];rfl,h6⟩⟩
    ·have hp:p=some ⟨b2,o2,none⟩:=hp.resolve_left hz
     subst hp;have:=aRe dc hl C.F 2 l b1 o1 b2 o2 cap (by omega) (fun ys W=>∃ zs:List (Bk dc),zs.map (fun x=>x.1)=ys∧J zs W) (fun ys W=>∃ zs:List (Bk dc),zs.map (fun x=>x.1)=ys∧Jx zs W)
      (fun pre k a b c d e f W1 hx hj hlt=>by
       obtain ⟨zs,rfl,hj⟩:=hj;have hk:k<dc.length:=(A2.1 hx).1;obtain ⟨fn,tmps,assign,body,hy,hR⟩:=hY zs ⟨k,hk⟩ W1 hj (by simpa [aRg] using hlt)
       have ev:B4 (lG dc k) = #[.int .i64 a,.int .i64 b,.int .i64 c,.int .i64 d,.int .i64 e,.int .i64 f]:=by
        unfold lG;rw [Bj,hx];rfl
       dsimp only at hy
       rw [ev] at hy
       refine ⟨fn,tmps,assign,body,hy,hR.mono ?_⟩;rintro e w3 (⟨rfl,Qt,Nf⟩ | ⟨rfl,Vf⟩)
       ·exact .inl ⟨rfl,⟨zs++[⟨k,hk⟩],by rw [eE];rfl,Qt⟩,Nf⟩
       ·exact .inr ⟨rfl,⟨zs++[⟨k,hk⟩],by rw [eE];rfl,Vf⟩⟩)
      W (fun ys A B row hs hg hr=>by obtain ⟨zs,h1,h2⟩:=hs;exact ⟨zs,h1,hJ _ _ _ _ h2 hg hr⟩) (fun b hb=>B5 (hFs b hb) hW.size)
      hcell
      (fun W' hk=>(dR (hsame W' hk b1 c0.1) _).trans c0.2)
      ⟨[],rfl,h0⟩
     refine this.mono ?_;rintro e W' ⟨h5,h6⟩;refine ⟨h5,?_⟩
     rcases h6 with ⟨ys,rfl,zs,h7,h8⟩ | ⟨pre,_,zs,h7,h8⟩
     ·exact .inl ⟨zs,h7,h8⟩
     ·exact .inr ⟨zs,trivial,h8⟩
end KV
end Go.Proofs
end
namespace Go.Proofs
namespace KV
open Tryz
section
variable {dl x0 x1 x2 x3 x4 x5:Int}{cl mb:Nat}

theorem bNm{v1 v2:Value}{es:List (Value × PV)}(h0:bV .i64 es (.int .i64 x0))(h1:(cV es (.int .i64 x0))=true):eB Tp 5 (sub (cd Tryz.f45) bi) ⟨fr 57 [(6,(.ptr 0 0)),(8,(.ptr 4 0))],[some (.box 106 [(.ptr 1 0)]),some (.box 169 [(pI dl),(.p (.v v1)),(.p (.v v2)),(.mp 2),(.p (.v (.map (some mb))))]),some (.mp es cl),some .dead,some (.box 84 [(pI x0),(pI x1),(pI x2),(pI x3),(pI x4),(pI x5)])]⟩ .normal ⟨fr 57 [(6,(.ptr 0 0)),(8,(.ptr 4 0))],[some (.box 106 [(.ptr 1 0)]),some (.box 169 [(pI dl),(.p (.v v1)),(.p (.v v2)),(.mp 2),(.p (.v (.map (some mb))))]),some (.mp (nW es (.int .i64 x0) (dcE x0 x1 x2 x3 x4 x5)) cl),some .dead,some (.box 84 [(pI x0),(pI x1),(pI x2),(pI x3),(pI x4),(pI x5)])]⟩:=eB.fi ⟨aa,[],[],[]⟩ [bT] (gc h1 (gc h0 gn))
theorem bNn{v1 v2:Value}{es:List (Value × PV)}(h0:bV .i64 es (.int .i64 x0))(h1:(cV es (.int .i64 x0))=false):eB Tp 5 (sub (cd Tryz.f45) bi) ⟨fr 57 [(6,(.ptr 0 0)),(8,(.ptr 4 0))],[some (.box 106 [(.ptr 1 0)]),some (.box 169 [(pI dl),(.p (.v v1)),(.p (.v v2)),(.mp 2),(.p (.v (.map (some mb))))]),some (.mp es cl),some .dead,some (.box 84 [(pI x0),(pI x1),(pI x2),(pI x3),(pI x4),(pI x5)])]⟩ .normal ⟨fr 57 [(6,(.ptr 0 0)),(8,(.ptr 4 0))],[some (.box 106 [(.ptr 1 0)]),some (.box 169 [(pI dl),(.p (.v v1)),(.p (.v v2)),(.mp 2),(.p (.v (.map (some mb))))]),some (.mp (es++[((.int .i64 x0),(dcE x0 x1 x2 x3 x4 x5))]) (cl+1)),some .dead,some (.box 84 [(pI x0),(pI x1),(pI x2),(pI x3),(pI x4),(pI x5)])]⟩:=eB.fi ⟨aa,[],[],[]⟩ [bF] (gc h1 (gc h0 gn))
theorem bNo{v1 v2:Value}{es:List (Value × PV)}:eB Tp 5 (sub (cd Tryz.f45) bc) ⟨fr 57 [(6,(.ptr 0 0)),(8,(.ptr 4 0))],[some (.box 106 [(.ptr 1 0)]),some (.box 169 [(pI dl),(.p (.v v1)),(.p (.v v2)),(.mp 2),(.p (.v (.map (some mb))))]),some (.mp es cl),some .dead,some (.box 84 [(pI x0),(pI x1),(pI x2),(pI x3),(pI x4),(pI x5)])]⟩ .normal ⟨fr 57 [(6,(.ptr 0 0)),(8,(.ptr 4 0)),(39,(pB (decide (x5 > 0))))],[some (.box 106 [(.ptr 1 0)]),some (.box 169 [(pI dl),(.p (.v v1)),(.p (.v v2)),(.mp 2),(.p (.v (.map (some mb))))]),some (.mp es cl),some .dead,some (.box 84 [(pI x0),(pI x1),(pI x2),(pI x3),(pI x4),(pI x5)])]⟩:=eB.fi ⟨[0,1,2,3,4,5,7,9,10,11,12,13,14,15,16,17,18,19,20,21,22,23,24,25,26,27,28,29,30,31,32,33,34,35,36,37,38,40,41,42,43,44,45,46,47,48,49,50,51,52,53,54,55,56],[],[],[]⟩ [] gn
end
end KV
end Go.Proofs
section
namespace Go.Proofs
open Go.RowKit
namespace KV
open Tryz
open Go.ChangeMaps (setBlock)
open Go.Maps Go.MapKept

section
variable {P:Program} {o:Oper} {a:Act} {W W':World}
theorem bHg{x:Operand}{p:Addr}(ho:o.op = .nilCheck x)(hv:a.eval x = .pointer (some p)):(execOp a.eval o).run P W = .ok (.value (.pointer (some p))) W:=by
 unfold execOp;rw [ho];simp [hv]
theorem vL{t:TypeId}{x:Operand}{f:Nat}{v r:Value}(ho:o.op = .fieldAddr t x f)(hx:a.eval x=v)(hr:(Instr.fieldAt t v f).run P W = .ok r W):(execOp a.eval o).run P W = .ok (.value r) W:=by
 unfold execOp;rw [ho];simp [hx,hr,Result.andThen]
theorem vM{t:TypeId}{fs:Array Field}{f:Nat}{fl:Field}{j:TI}(hd:P.underlying t=some (.struct fs))(hf:fs[f]? = some fl)(hj:bU P fl.type=some j)(h0:j.size≠0)(b off:Nat) :
  (Instr.fieldAt t (.pointer (some ⟨b,off,none⟩)) f).run P W = .ok (.pointer (some ⟨b,off+fl.offset,none⟩)) W:=by
 unfold Instr.fieldAt;rw [Sem.run_bind,run_underlying hd,Result.andThen_ok];simp only [hf];rw [Sem.run_bind];show ((pure (⟨b,off,none⟩:Addr):Sem Addr).run P W).andThen _=_;rw [Sem.run_pure,Result.andThen_ok,Sem.run_bind,pT hj h0,Result.andThen_ok];rfl
theorem bBu{t:Nat}{i:TI}(hi:bU P t=some i)(ha:i.agg=true){b:Nat}{l:List Value}{ty:TypeId}{fr:Nat × Nat}(hl:l.length=i.size)(h:W.heap[b]? = some (.cells l.toArray ty fr)):(Instr.loadAt t (.pointer (some ⟨b,0,none⟩))).run P W = .ok (.agg l.toArray) W:=by
 have:=kB (P:=P) (w:=W) hi ha (b:=b) (o:=0) (f:=fun j=>l.getD j undef) (fun j hj=>by
  rw [fE,bH h (by simpa using (by omega:j<l.length))]
  simp [Bj,Ap (show j<l.length by omega),A4])
 have e:((List.range i.size).map fun j=>l.getD j undef).toArray=l.toArray:=by
  rw [← hl]
  congr 1
  apply List.ext_getElem
  ·simp
  ·intro j h1 h2
   simp [Bj,Ap h2]
 rw [e] at this
 unfold Instr.loadAt Instr.sureAddr;simpa using this
end
theorem Ns{x:List Int}(hx:x.length=6):Instr.fill (fun i=>some (i*6,6)) ((Array.range (1*6)).map (Hp.cells[· % Hp.cells.size]!)) [(0,.agg (vsL x).toArray)]=some (vsL x).toArray:=by
 obtain ⟨a,b,c,d,e,f,rfl⟩:=Az hx
 kernel_rfl
theorem tiq{P:Program}{t:Nat}{b:Bool}{n:Nat}(h:(bU P t).map (fun i=>(i.agg,i.size))=some (b,n)):∃ i,bU P t=some i∧i.agg=b∧i.size=n:=by
 cases h2:bU P t with
 | none=>rw [h2] at h;simp at h
 | some i=>rw [h2] at h;simp at h;exact ⟨i,rfl,h.1,h.2⟩
theorem Nt:(bU Tp 106).map (fun i=>(i.agg,i.size))=some (false,1):=by kernel_rfl
theorem Nu:(bU Tp 167).map (fun i=>(i.agg,i.size))=some (false,1):=by kernel_rfl
theorem Uu:(bU Tp 3).map (fun i=>(i.agg,i.size))=some (false,1):=by kernel_rfl
theorem Ql:(bU Tp 84).map (fun i=>(i.agg,i.size))=some (true,6):=by kernel_rfl
theorem Et:(Tryz.prog.info? 84).map (fun i=>(i.zero,i.size,i.bytes))=some (some Hp,6,48):=by kernel_rfl

structure bNk (mb:Nat) (es:Array MapEntry) (cl:Nat) (L:List Ent) (k:Int) (x:List Int) (W W':World) (Bq:Array MapEntry) (Cp:Nat) (e:Ent):Prop where
 ok:kL mb Bq (nT L e)
 ky:e.k=k
 li:e.l=nS L k++[x]
 born:(∀ y∈es.toList,y.born<cl)→∀ y∈Bq.toList,y.born<Cp
 has:∀ p∈gB mb Bq Cp (nT L e),W'.heap[p.1]? = some p.2∧((∃ p0∈gB mb es cl L,p0.1=p.1)∨W.heap.size≤p.1)
 size:W.heap.size≤W'.heap.size
 os:W'.os=W.os
 tape:W'.tape=W.tape
 out:W'.output=W.output
 keep:∀ b,b<W.heap.size→(∀ q∈gB mb es cl L,q.1≠b)→W'.heap[b]? = W.heap[b]?

theorem bNl:∃ l:List Oper,sub (cd Tryz.f45) ax = .region 9 l.toArray true∧aIo l [0,1,2,3,4,5,6,7,8,9,10,11,12,13] 14 15 16=true∧l.all yF=true∧l.map (fun o=>(o.op,o.dst))=[(.load 106 (.tmp 6),some 40),(.nilCheck (.tmp 40),some 41),(.fieldAddr 169 (.tmp 41) 2,some 42),(.load 167 (.tmp 42),some 43),(.fieldAddr 84 (.tmp 8) 5,some 44),(.load 3 (.tmp 44),some 45),(.load 106 (.tmp 6),some 46),(.nilCheck (.tmp 46),some 47),(.fieldAddr 169 (.tmp 47) 2,some 48),(.load 167 (.tmp 48),some 49),(.fieldAddr 84 (.tmp 8) 5,some 50),(.load 3 (.tmp 50),some 51),(.lookup 167 (.tmp 49) (.tmp 51) false,some 52),(.load 84 (.tmp 8),some 53),(.buildSlice 24 1 #[(0,.tmp 53)],some 54),(.call { callee := .builtin .append,args := #[.tmp 52,.tmp 54],argTypes := #[24,24] },some 55),(.mapUpdate 167 (.tmp 43) (.tmp 45) (.tmp 55),none)] :=
 ⟨match sub (cd Tryz.f45) ax with | .region _ ops _=>ops.toList | _=>[],by kernel_rfl,by kernel_rfl,by kernel_rfl,by kernel_rfl⟩
set_option maxHeartbeats 4000000 in
theorem Qi{F:Fence}{n:Nat}(hall:∀ f,F.fn f){a:Act}{W:World}{b6 bd b8 mb cl:Nat}{es:Array MapEntry}{L:List Ent}{x:List Int}(Jh:x.length=6){a6 ad:Array Value}{t6 td:TypeId}
  (hsz:a.tmps.size=57) (v6:a.tmps.getD 6 undef = .pointer (some ⟨b6,0,none⟩)) (v8:a.tmps.getD 8 undef = .pointer (some ⟨b8,0,none⟩))
  (h6:W.heap[b6]? = some (.cells a6 t6 (0,0))) (q6:0<a6.size∧a6.getD 0 undef = .pointer (some ⟨bd,0,none⟩)) (hd:W.heap[bd]? = some (.cells ad td (0,0))) (qd:4<ad.size∧ad.getD 4 undef = .map (some mb)) (h8:W.heap[b8]? = some (.cells (vsL x).toArray 84 (0,0)))
  (hM:kL mb es L) (hR:∀ p∈gB mb es cl L,W.heap[p.1]? = some p.2) (hl:∀ e∈L,e.l.length≤1000) (hne:∀ p∈gB mb es cl L,p.1≠b6∧p.1≠bd∧p.1≠b8) (hk:(Lit.int .i64 (dAb x)).wf=true) :
  (sub (cd Tryz.f45) ax).wpIn F n Tp (fun e a' W'=>e = .normal∧∃ Bq Cp e,bNk mb es cl L (dAb x) x W W' Bq Cp e) a W:=by
 obtain ⟨l,hc,hB,hcalm,hops⟩:=bNl;rw [hc];obtain ⟨o0,l0,rfl,h0,hops⟩:=pX.1 hops;obtain ⟨o1,l1,rfl,h1,hops⟩:=pX.1 hops;obtain ⟨o2,l2,rfl,h2,hops⟩:=pX.1 hops;obtain ⟨o3,l3,rfl,h3,hops⟩:=pX.1 hops;obtain ⟨o4,l4,rfl,h4,hops⟩:=pX.1 hops;obtain ⟨o5,l5,rfl,h5,hops⟩:=pX.1 hops;obtain ⟨o6,l6,rfl,Oi,hops⟩:=pX.1 hops;obtain ⟨o7,l7,rfl,h7,hops⟩:=pX.1 hops;obtain ⟨o8,l8,rfl,Oj,hops⟩:=pX.1 hops;obtain ⟨o9,l9,rfl,h9,hops⟩:=pX.1 hops;obtain ⟨o10,l10,rfl,B0,hops⟩:=pX.1 hops;obtain ⟨o11,l11,rfl,Cg,hops⟩:=pX.1 hops;obtain ⟨o12,l12,rfl,Cc,hops⟩:=pX.1 hops;obtain ⟨o13,l13,rfl,Dp,hops⟩:=pX.1 hops;obtain ⟨Uv,l14,rfl,D6,hops⟩:=pX.1 hops;obtain ⟨Sj,l15,rfl,F6,hops⟩:=pX.1 hops;obtain ⟨Uw,l16,rfl,G0,hops⟩:=pX.1 hops;obtain rfl:=List.map_eq_nil_iff.1 hops;obtain ⟨q0,d0⟩:=Prod.mk.inj h0;obtain ⟨q1,d1⟩:=Prod.mk.inj h1;obtain ⟨q2,d2⟩:=Prod.mk.inj h2;obtain ⟨q3,d3⟩:=Prod.mk.inj h3;obtain ⟨q4,d4⟩:=Prod.mk.inj h4;obtain ⟨q5,d5⟩:=Prod.mk.inj h5;obtain ⟨Ux,d6⟩:=Prod.mk.inj Oi;obtain ⟨q7,d7⟩:=Prod.mk.inj h7;obtain ⟨q8,d8⟩:=Prod.mk.inj Oj;obtain ⟨q9,d9⟩:=Prod.mk.inj h9;obtain ⟨Uy,Eu⟩:=Prod.mk.inj B0;obtain ⟨Uz,Ev⟩:=Prod.mk.inj Cg;obtain ⟨U0,Ew⟩:=Prod.mk.inj Cc;obtain ⟨U1,Nv⟩:=Prod.mk.inj Dp;obtain ⟨U2,Nw⟩:=Prod.mk.inj D6;obtain ⟨U3,Qm⟩:=Prod.mk.inj F6;obtain ⟨U4,d16⟩:=Prod.mk.inj G0;clear h0 h1 h2 h3 h4 h5 Oi h7 Oj h9 B0 Cg Cc Dp D6 F6 G0;have V6:a.eval (.tmp 6) = .pointer (some ⟨b6,0,none⟩):=v6;have V8:a.eval (.tmp 8) = .pointer (some ⟨b8,0,none⟩):=v8;obtain ⟨U5,Qn,Qo,_⟩:=tiq Nt;obtain ⟨U6,Nx,Qp,Qq⟩:=tiq Nu;obtain ⟨i3,t3,a3,s3⟩:=tiq Uu;obtain ⟨Un,U7,U8,U9⟩:=tiq Ql;have fd:∀ U:World,(Instr.fieldAt 169 (.pointer (some ⟨bd,0,none⟩)) 2).run Tp U = .ok (.pointer (some ⟨bd,4,none⟩)) U:=fun U =>
  (vM (P:=Tp) (W:=U) Tryz.underlying169 (f:=2) rfl (by exact Nx) (by rw [Qq];decide) bd 0)
 have f8:∀ U:World,(Instr.fieldAt 84 (.pointer (some ⟨b8,0,none⟩)) 5).run Tp U = .ok (.pointer (some ⟨b8,5,none⟩)) U:=fun U =>
  (vM (P:=Tp) (W:=U) Tryz.underlying84 (f:=5) rfl (by exact t3) (by rw [s3];decide) b8 0)
 obtain ⟨S,hSdef⟩:∃ S:World→Prop,S=fun U=>U.heap[b6]? = W.heap[b6]? ∧ U.heap[bd]? = W.heap[bd]? ∧ U.heap[b8]? = W.heap[b8]? ∧ U.heap[mb]? = W.heap[mb]? := ⟨_,rfl⟩
 have hmb:W.heap[mb]? = some (.map es cl):=hR (mb,.map es cl) (by simp [gB])
 have r6:∀ U,S U→(Instr.loadAt 106 (.pointer (some ⟨b6,0,none⟩))).run Tp U = .ok (.pointer (some ⟨bd,0,none⟩)) U:=fun U hU=>by
  rw [hSdef] at hU
  refine xA Qn Qo ?_;rw [dR hU.1,bH h6 q6.1];have:=q6.2;simp only [A4,pA q6.1,Option.getD_some] at this ⊢
  rw [this]
 have rd:∀ U,S U→(Instr.loadAt 167 (.pointer (some ⟨bd,4,none⟩))).run Tp U = .ok (.map (some mb)) U:=fun U hU=>by
  rw [hSdef] at hU
  refine xA Nx Qp ?_;rw [dR hU.2.1,bH hd qd.1];have:=qd.2;simp only [A4,pA qd.1,Option.getD_some] at this ⊢
  rw [this]
 have x5:(vsL x)[5]? = some (.int .i64 (dAb x)):=by
  unfold vsL;rw [B6,Ap (by omega)]
  simp [dAb,Bj,Ap (show 5<x.length by omega)]
 have r5:∀ U,S U→(Instr.loadAt 3 (.pointer (some ⟨b8,5,none⟩))).run Tp U = .ok (.int .i64 (dAb x)) U:=fun U hU=>by
  rw [hSdef] at hU
  refine xA t3 a3 ?_;have Qr:5<(vsL x).length:=by simp [vsL,Jh]
  rw [dR hU.2.2.1,bH h8 (j:=5) (by simpa using Qr)]
  simp only [Ap Qr,Option.some.injEq] at x5
  simp [A4,Ap Qr,x5]
 have r8:∀ U,S U→(Instr.loadAt 84 (.pointer (some ⟨b8,0,none⟩))).run Tp U = .ok (.agg (vsL x).toArray) U:=fun U hU=>by
  rw [hSdef] at hU
  exact bBu U7 U8 (by simp [vsL,Jh,U9]) (hU.2.2.1.trans h8)
 have rz:∀ U:World,(zeroValue 24).run Tp U = .ok (.slice none 0 0) U:=fun U=>rfl
 have rl:∀ U,S U→(Instr.lookup 167 (.map (some mb)) (.int .i64 (dAb x)) false).run Tp U = .ok (oZ L (dAb x)) U:=fun U hU=>by
  rw [hSdef] at hU
  exact bHi Tryz.underlying167 Tryz.underlying3 (rz U) (hU.2.2.2.trans hmb) hM hk
 obtain ⟨W1,G1⟩:∃ W1:World,W1={ W with drawn:=W.drawn+1 }:=⟨_,rfl⟩
 have Hr:W1.heap=W.heap:=by rw [G1]
 have hs:Sim Tp ((⟨fun _=>none,fun _=>0,fun _=>False,[]⟩:Cx).with (gB mb es cl L++[])) [] { W1 with heap := #[] } ⟨List.replicate 57 .any,[]⟩ { tmps:=a.tmps,defers:=[] } W1:=by
  refine ⟨⟨fun _=>none,fun _=>0,fun _=>False,[]⟩,⟨by simpa using hsz,fun j hj=>by rw [List.getElem_replicate];exact .any _⟩,⟨fun _ _ _ _ h=>by simp at h,fun _ _ _ h=>by simp at h,fun _ _ _ h=>by simp at h,fun _ _ _ _ _ h=>by simp at h,fun _ _ _ h=>by simp at h,fun _ h=>h.elim,fun _ _ _ h=>by simp at h⟩,
   ⟨rfl,rfl,rfl,Nat.zero_le _,fun b hb=>by simp at hb,fun _ _ h=>by simp at h,fun _ _ h=>by simp at h,fun _ _ h=>by simp at h,fun _ _ _ h=>by simp at h,fun _ h=>h,fun _ h=>h.elim⟩,?_⟩
  refine ⟨⟨[],rfl,.nil,fun D h=>by cases h⟩,fun p hp => ?_,.no (fun _ _ h=>by simp at h)⟩
  have Gy:p∈gB mb es cl L:=by have h2:p∈gB mb es cl L++[]:=hp;rwa [List.append_nil] at h2
  refine ⟨by rw [Hr];exact hR p Gy,Nat.zero_le _,?_,fun h=>h,fun _ _ h=>by simp at h⟩
  rcases cJ.1 Gy with rfl | ⟨y,_,rfl⟩ <;> (intro h;cases h)
 obtain ⟨v2,w2,Bq,Cp,e,hrun,hkeep,Hs,⟨hsize,hborn,hold⟩,hup,E1,hek,hel,_,hsim⟩:=bNw (P:=Tp) (C0:=⟨fun _=>none,fun _=>0,fun _=>False,[]⟩) (kt:=3) (S22:=24) (ty:=Sj.type) (k:=dAb x) (x:=x) Jh Tryz.underlying167 Tryz.underlying3 Tryz.underlying24 Et hs (fun p _ q hq=>by cases hq) hM hk hl
 have Ec:S w2:=by
  rw [hSdef];have hlt:∀ b o,W.heap[b]? = some o→b<W1.heap.size:=fun b o h=>by rw [Hr];exact bM h
  refine ⟨(hkeep b6 (hlt _ _ h6) fun q hq=>(hne q hq).1).trans (by rw [Hr]),(hkeep bd (hlt _ _ hd) fun q hq=>(hne q hq).2.1).trans (by rw [Hr]),(hkeep b8 (hlt _ _ h8) fun q hq=>(hne q hq).2.2).trans (by rw [Hr]),Hs.trans (by rw [Hr])⟩
 have Hm:S { W with drawn:=W.drawn+1 }:=by rw [hSdef];exact ⟨rfl,rfl,rfl,rfl⟩
 refine bBw (P:=Tp) (o1:=Uv) (o2:=Sj) (o3:=Uw) (S:=S) hall (fun ⟨_,_,h,_⟩=>by cases h) hcalm [0,1,2,3,4,5,6,7,8,9,10,11,12,13] 14 15 16 mixed hB rfl rfl rfl (fun c a w h=>by cases h.1) Hm
  [.pointer (some ⟨bd,0,none⟩),.pointer (some ⟨bd,0,none⟩),.pointer (some ⟨bd,4,none⟩),.map (some mb),.pointer (some ⟨b8,5,none⟩),.int .i64 (dAb x),.pointer (some ⟨bd,0,none⟩),.pointer (some ⟨bd,0,none⟩),.pointer (some ⟨bd,4,none⟩),.map (some mb),.pointer (some ⟨b8,5,none⟩),.int .i64 (dAb x),oZ L (dAb x),.agg (vsL x).toArray] rfl ?_ ?_
 ·refine ⟨fun U hU=>oQ q0 V6 (r6 U hU),fun U hU=>bHg q1 (by simp [bE,bB,cQ,hsz,V6,V8,d0,d1,d2,d3,d4,d5,d6,d7,d8,d9,Eu,Ev,Ew]),fun U hU=>vL q2 (by simp [bE,bB,cQ,hsz,V6,V8,d0,d1,d2,d3,d4,d5,d6,d7,d8,d9,Eu,Ev,Ew]) (fd U),
   fun U hU=>oQ q3 (by simp [bE,bB,cQ,hsz,V6,V8,d0,d1,d2,d3,d4,d5,d6,d7,d8,d9,Eu,Ev,Ew]) (rd U hU),fun U hU=>vL q4 (by simp [bE,bB,cQ,hsz,V6,V8,d0,d1,d2,d3,d4,d5,d6,d7,d8,d9,Eu,Ev,Ew]) (f8 U),fun U hU=>oQ q5 (by simp [bE,bB,cQ,hsz,V6,V8,d0,d1,d2,d3,d4,d5,d6,d7,d8,d9,Eu,Ev,Ew]) (r5 U hU),
   fun U hU=>oQ Ux (by simp [bE,bB,cQ,hsz,V6,V8,d0,d1,d2,d3,d4,d5,d6,d7,d8,d9,Eu,Ev,Ew]) (r6 U hU),fun U hU=>bHg q7 (by simp [bE,bB,cQ,hsz,V6,V8,d0,d1,d2,d3,d4,d5,d6,d7,d8,d9,Eu,Ev,Ew]),fun U hU=>vL q8 (by simp [bE,bB,cQ,hsz,V6,V8,d0,d1,d2,d3,d4,d5,d6,d7,d8,d9,Eu,Ev,Ew]) (fd U),
   fun U hU=>oQ q9 (by simp [bE,bB,cQ,hsz,V6,V8,d0,d1,d2,d3,d4,d5,d6,d7,d8,d9,Eu,Ev,Ew]) (rd U hU),fun U hU=>vL Uy (by simp [bE,bB,cQ,hsz,V6,V8,d0,d1,d2,d3,d4,d5,d6,d7,d8,d9,Eu,Ev,Ew]) (f8 U),fun U hU=>oQ Uz (by simp [bE,bB,cQ,hsz,V6,V8,d0,d1,d2,d3,d4,d5,d6,d7,d8,d9,Eu,Ev,Ew]) (r5 U hU),
   fun U hU=>bBy U0 (by simp [bE,bB,cQ,hsz,V6,V8,d0,d1,d2,d3,d4,d5,d6,d7,d8,d9,Eu,Ev,Ew]) (by simp [bE,bB,cQ,hsz,V6,V8,d0,d1,d2,d3,d4,d5,d6,d7,d8,d9,Eu,Ev,Ew]) (rl U hU),
   fun U hU=>oQ U1 (by simp [bE,bB,cQ,hsz,V6,V8,d0,d1,d2,d3,d4,d5,d6,d7,d8,d9,Eu,Ev,Ew]) (r8 U hU),trivial⟩
 ·intro a' I8
  have Va:a'.eval (.tmp 43) = .map (some mb):=by rw [I8];simp [yG,bE,bB,cQ,hsz,V6,V8,d0,d1,d2,d3,d4,d5,d6,d7,d8,d9,Eu,Ev,Ew,Nv]
  have Ng:a'.eval (.tmp 45) = .int .i64 (dAb x):=by rw [I8];simp [yG,bE,bB,cQ,hsz,V6,V8,d0,d1,d2,d3,d4,d5,d6,d7,d8,d9,Eu,Ev,Ew,Nv]
  have Vb:a'.eval (.tmp 52)=oZ L (dAb x):=by rw [I8];simp [yG,bE,bB,cQ,hsz,V6,V8,d0,d1,d2,d3,d4,d5,d6,d7,d8,d9,Eu,Ev,Ew,Nv]
  have Vd:a'.eval (.tmp 53) = .agg (vsL x).toArray:=by rw [I8];simp [yG,bE,bB,cQ,hsz,V6,V8,d0,d1,d2,d3,d4,d5,d6,d7,d8,d9,Eu,Ev,Ew,Nv]
  have Ve:a'.tmps.size=57:=by rw [I8];simp [yG,cQ,hsz,d0,d1,d2,d3,d4,d5,d6,d7,d8,d9,Eu,Ev,Ew,Nv]
  obtain ⟨inf,hi,hz,D9,Ks⟩:=info_parts Et;have hvl:(vsL x).length=6:=by simp [vsL,Jh]
  have hbld:∀ U:World,(Instr.buildSlice 24 1 #[(0,.agg (vsL x).toArray)]).run Tp U = .ok (.slice (some ⟨U.heap.size,0,none⟩) 1 1) (U.alloc (.cells (vsL x).toArray 84)):=fun U =>
   aAo (P:=Tp) 24 84 inf 1 #[(0,.agg (vsL x).toArray)] (vsL x).toArray Hp Tryz.underlying24 hi hz (by rw [D9];decide) (by rw [D9];exact Ns Jh)
  have Qs:({ W with drawn:=W.drawn+1 }:World)=W1:=G1.symm
  rw [Qs] at Hm ⊢
  refine ⟨_,_,v2,w2,setBlock w2 mb (.map Bq Cp),bBz U2 Vd (hbld _),?_,bCa U3 (by rw [Nw,bE rfl];exact Vb) (by rw [Nw,bB (by omega)]) hrun,Ec,bCb U4 (by rw [Nw,Qm,bE rfl,bE rfl];exact Va) (by rw [Nw,Qm,bE rfl,bE rfl];exact Ng) (by rw [Nw,Qm,bB (by rw [cQ];omega)]) hup,?_⟩
  ·obtain ⟨n1,n2,n3⟩:=iG W1 (.cells (vsL x).toArray 84)
   rw [hSdef] at Hm ⊢
   have hlt:∀ b o,W.heap[b]? = some o→b<W1.heap.size:=fun b o h=>by rw [Hr];exact bM h
   exact ⟨(n3 b6 (hlt _ _ h6)).trans Hm.1,(n3 bd (hlt _ _ hd)).trans Hm.2.1,(n3 b8 (hlt _ _ h8)).trans Hm.2.2.1,(n3 mb (hlt _ _ hmb)).trans Hm.2.2.2⟩
  ·refine ⟨rfl,Bq,Cp,e,⟨E1,hek,hel,hborn,fun p hp => ?_,?_,?_,?_,?_,fun b hb hno => ?_⟩⟩
   ·refine ⟨hsim.has p (mD _ hp),?_⟩
    rcases hold p hp with h | h
    ·exact .inl h
    ·right;rw [Hr] at h;exact h
   ·unfold setBlock;simp only [Array.size_setIfInBounds];rw [Hr] at hsize;exact hsize
   ·obtain ⟨C,_,_,hF,_⟩:=hsim
    exact hF.os.trans (by rw [G1])
   ·obtain ⟨C,_,_,hF,_⟩:=hsim
    exact hF.tape.trans (by rw [G1])
   ·obtain ⟨C,_,_,hF,_⟩:=hsim
    exact hF.out.trans (by rw [G1])
   ·have hbm:b≠mb:=fun h=>hno (mb,.map es cl) (by simp [gB]) h.symm
    have:(setBlock w2 mb (.map Bq Cp)).heap[b]? = w2.heap[b]? := by
     unfold setBlock;simp only [Array.getElem?_setIfInBounds];rw [if_neg (Ne.symm hbm)]
    rw [this,hkeep b (by rw [Hr];exact hb) hno,Hr]
end KV
end Go.Proofs
end
section
namespace Go.Proofs
open Go.RowKit
namespace KV
open Tryz
open Go.ChangeMaps (setBlock)

mutual
def ffP:PV→Bool
 | .v _=>true
 | .agg cs=>bBt cs
 | _=>false
def bBt:List PV→Bool
 | []=>true
 | x::r=>ffP x && bBt r
end
theorem aUj:∀ {l:List PV},bBt l=true→∀ (i:Nat) (h:i<l.length),ffP l[i]=true
 | [],_,i,h=>by simp at h
 | x::r,hl,i,h=>by
  rw [bBt,Bg] at hl
  cases i with
  | zero=>exact hl.1
  | succ i=>exact aUj hl.2 i (by simpa using h)
theorem aLs{α:Type}(g:α→PV)(h:∀ x,ffP (g x)=true):∀ l:List α,bBt (l.map g)=true
 | []=>rfl
 | x::r=>by rw [gT,bBt,h,aLs g h r];rfl
theorem bW.anyF{F F':Nat→Prop}{w w':World}{x:PV}{u:Value}(h:bW F w x u)(hm:ffP x=true):bW F' w' x u:=by
 induction h with
 | v x=>exact .v x
 | agg cs vs h0 h1 _ ih =>
  rw [ffP] at hm
  exact .agg cs vs h0 h1 fun i hi=>ih i hi (aUj hm i hi)
 | sl=>simp [ffP] at hm
 | mp=>simp [ffP] at hm
 | rp=>simp [ffP] at hm
 | fn=>simp [ffP] at hm

def sI(x:List Int):PV := .agg (x.map aA)
def jO(es:List (Value × PV))(x:List Int):List (Value × PV):=if cV es (.int .i64 (dN x)) then nW es (.int .i64 (dN x)) (sI x) else es++[(.int .i64 (dN x),sI x)]
def atF(q:Lqq):List (Value × PV):=q.foldl jO []
theorem aLt(q:Lqq)(x:List Int):atF (q++[x])=jO (atF q) x:=by unfold atF;rw [aDk];rfl
structure wY (es:List (Value × PV)):Prop where
 ky:∀ e∈es,aKc .i64 e.1=true
 nd:(es.map fun e=>gS e.1).Nodup
 nm:∀ e∈es,ffP e.2=true
theorem aCg{kv:Value}{x:PV}:∀ (es:List (Value × PV)),((nW es kv x).map fun e=>gS e.1)=es.map fun e=>gS e.1
 | []=>rfl
 | e::r=>by
  unfold nW
  split
  ·rename_i h
   rw [gT,gT,h]
  ·rw [gT,gT,aCg r]
theorem aCh{kv:Value}{x:PV}{e:Value × PV}:∀ {es:List (Value × PV)},e∈nW es kv x→e∈es∨e=(kv,x)
 | [],h=>by unfold nW at h;cases h
 | a::r,h=>by
  unfold nW at h
  split at h
  ·rcases gG.1 h with h | h
   ·exact .inr h
   ·exact .inl (B7 _ h)
  ·rcases gG.1 h with h | h
   ·exact .inl (h ▸ jI ..)
   ·rcases aCh h with h | h
    ·exact .inl (B7 _ h)
    ·exact .inr h
theorem aUk(x:List Int):ffP (sI x)=true:=by unfold sI;rw [ffP];exact aLs _ (fun _=>rfl) _
theorem wY.step{es:List (Value × PV)}(h:wY es){x:List Int}(hx : -1000000≤dN x∧dN x≤1000000):wY (jO es x):=by
 unfold jO;cases hb:cV es (.int .i64 (dN x)) with
 | true =>
  rw [if_pos rfl];refine ⟨fun e he => ?_,by rw [aCg];exact h.nd,fun e he => ?_⟩
  ·rcases aCh he with h1 | rfl
   ·exact h.ky e h1
   ·exact mL hx
  ·rcases aCh he with h1 | rfl
   ·exact h.nm e h1
   ·exact aUk x
 | false =>
  rw [if_neg (by simp)]
  refine ⟨fun e he => ?_,?_,fun e he => ?_⟩
  ·rcases eU.1 he with h1 | h1
   ·exact h.ky e h1
   ·rw [List.mem_singleton.1 h1];exact mL hx
  ·rw [eE,List.nodup_append]
   refine ⟨h.nd,by simp,fun a ha b Aj hab => ?_⟩
   simp at Aj
   subst Aj;obtain ⟨e,he,rfl⟩:=dH.1 ha;have:=(List.any_eq_false.1 (show es.any _=false from hb)) e he
   exact this (decide_eq_true hab)
  ·rcases eU.1 he with h1 | h1
   ·exact h.nm e h1
   ·rw [List.mem_singleton.1 h1];exact aUk x
theorem bHd{q:Lqq}(hq:∀ x∈q,-1000000≤dN x∧dN x≤1000000):wY (atF q):=by
 have key:∀ (q:Lqq) (es:List (Value × PV)),(∀ x∈q,-1000000≤dN x∧dN x≤1000000)→wY es→wY (q.foldl jO es):=by
  intro q
  induction q with
  | nil=>intro es _ h;exact h
  | cons x q ih=>intro es hq h;exact ih _ (fun y hy=>hq y (B7 _ hy)) (h.step (hq x (jI ..)))
 exact key q [] hq ⟨fun e h=>(by cases h),by simp,fun e h=>(by cases h)⟩
theorem wY.keys{es:List (Value × PV)}(h:wY es){k:Int}(hk : -1000000≤k∧k≤1000000):bV .i64 es (.int .i64 k):=⟨h.ky,mL hk,h.nd⟩
theorem bHe{kv:Value}{x:PV}(es:List (Value × PV)):(nW es kv x).length=es.length:=by
 have:=congrArg List.length (aCg (kv:=kv) (x:=x) es);simpa using this

abbrev dkB(dl:Int)(s1 s2:PV)(a b:AV):AO := .box 169 [.p (aA dl),.p s1,.p s2,a,b]
abbrev kK(dl:Int)(sk dc:Lqq):Mem:=[some (.box 106 [.ptr 1 0]),some (dkB dl (.sl sk.length (sk.flatten.map aA)) (.sl dc.length (dc.flatten.map aA)) (.mp 2) (.mp 3)),some (.mp [] 0),some (.mp [] 0)]
abbrev wZ(dl:Int)(v1 v2:Value)(mb:Nat)(es:List (Value × PV)):Mem:=[some (.box 106 [.ptr 1 0]),some (dkB dl (.v v1) (.v v2) (.mp 2) (.p (.v (.map (some mb))))),some (.mp es es.length),some .dead]
abbrev fM(dl:Int)(v1 v2:Value)(mb:Nat)(es:List (Value × PV))(x:List Int):Mem:=[some (.box 106 [.ptr 1 0]),some (dkB dl (.v v1) (.v v2) (.mp 2) (.p (.v (.map (some mb))))),some (.mp es es.length),some .dead,some (.box 84 ((x.map aA).map .p))]
theorem at4{α:Type}{a b c d x:α}{i:Nat}(h:[a,b,c,d][i]? = some x):(i=0∧x=a)∨(i=1∧x=b)∨(i=2∧x=c)∨(i=3∧x=d):=by
 match i with
 | 0=>simp at h;exact .inl ⟨rfl,h.symm⟩
 | 1=>simp at h;exact .inr (.inl ⟨rfl,h.symm⟩)
 | 2=>simp at h;exact .inr (.inr (.inl ⟨rfl,h.symm⟩))
 | 3=>simp at h;exact .inr (.inr (.inr ⟨rfl,h.symm⟩))
 | i+4=>simp at h
theorem Kn{α:Type}{a b c d e x:α}{i:Nat}(h:[a,b,c,d,e][i]? = some x):(i=0∧x=a)∨(i=1∧x=b)∨(i=2∧x=c)∨(i=3∧x=d)∨(i=4∧x=e):=by
 match i with
 | 0=>simp at h;exact .inl ⟨rfl,h.symm⟩
 | 1=>simp at h;exact .inr (.inl ⟨rfl,h.symm⟩)
 | 2=>simp at h;exact .inr (.inr (.inl ⟨rfl,h.symm⟩))
 | 3=>simp at h;exact .inr (.inr (.inr (.inl ⟨rfl,h.symm⟩)))
 | 4=>simp at h;exact .inr (.inr (.inr (.inr ⟨rfl,h.symm⟩)))
 | i+5=>simp at h
section
variable {dl:Int} {sk dc:Lqq} {v1 v2:Value} {mb:Nat} {es:List (Value × PV)} {x:List Int} {C C' C3:Cx} {w W W3 W4:World}

theorem rZ{i:Nat}{o:AO}(h:(wZ dl v1 v2 mb es)[i]? = some (some o))(hl:o.live=true):i=0∨i=1∨i=2:=by
 rcases at4 h with ⟨rfl,_⟩ | ⟨rfl,_⟩ | ⟨rfl,_⟩ | ⟨rfl,e⟩
 ·exact .inl rfl
 ·exact .inr (.inl rfl)
 ·exact .inr (.inr rfl)
 ·cases e;cases hl
theorem dV(i:Nat)(h:i<4):∃ o,(kK dl sk dc)[i]? = some (some o)∧o.live=true:=by
 match i,h with
 | 0,_=>exact ⟨_,rfl,rfl⟩
 | 1,_=>exact ⟨_,rfl,rfl⟩
 | 2,_=>exact ⟨_,rfl,rfl⟩
 | 3,_=>exact ⟨_,rfl,rfl⟩
theorem bHf:aIl (kK dl sk dc) (wZ dl v1 v2 mb es):=⟨fun i es cl h=>(by
 rcases at4 h with ⟨rfl,e⟩ | ⟨rfl,e⟩ | ⟨rfl,e⟩ | ⟨rfl,e⟩
 ·cases e
 ·cases e
 ·exact ⟨_,rfl,rfl⟩
 ·cases e),fun i o h=>by
 rcases at4 h with ⟨rfl,e⟩ | ⟨rfl,e⟩ | ⟨rfl,e⟩ | ⟨rfl,e⟩ <;> cases e <;> rfl⟩

structure aLu (dl:Int) (sk dc:Lqq) (v1 v2:Value) (C:Cx) (w:World) (mb:Nat) (q:Lqq) (W:World) (C':Cx) (es:Array MapEntry) (cl:Nat) (L:List Ent):Prop where
 inv:aDr Tp C (kK dl sk dc) w C' (wZ dl v1 v2 mb (atF q)) W
 ok:kL mb es L
 ls:L.map (fun e=>(e.k,e.l))=q.foldl iC []
 born:∀ y∈es.toList,y.born<cl
 has:∀ p∈gB mb es cl L,W.heap[p.1]? = some p.2∧¬ C'.F p.1∧(p.1=mb∨w.heap.size≤p.1)

theorem aLu.own{q:Lqq}{W':World}{ea:Array MapEntry}{cl:Nat}{L:List Ent}{row:Option Nat}(B1:aO Tp C (kK dl sk dc) w)(hmb:C.ι 3=some mb)(h:aLu dl sk dc v1 v2 C w mb q W C' ea cl L)(hg:W.grownBy W' row)
  (hr:∀ r,row=some r→w.heap.size≤r∧∃ o:Obj,W.heap[r]? = some o∧o.isCells=false):aLu dl sk dc v1 v2 C w mb q W' C' ea cl L:=by
 refine ⟨aDr.own bHf B1 h.inv hg hr,h.ok,h.ls,h.born,fun p hp => ?_⟩
 obtain ⟨h1,h2,h3⟩:=h.has p hp;refine ⟨(hg.block p.1 (bM h1) fun e => ?_).trans h1,h2,h3⟩
 obtain ⟨q1,o,q2,q3⟩:=hr _ e.symm
 rcases cJ.1 hp with rfl | ⟨y,_,rfl⟩
 ·have:=B1.lt 3 _ mb rfl rfl hmb
  dsimp only at q1
  omega
 ·rw [q2] at h1
  cases h1;cases q3

theorem aUl{b:Nat}{X:Nat→Prop}{Bq:List (Value × PV)}(B1:aO Tp C (kK dl sk dc) w)(hmb:C.ι 3=some mb)(hI:aDr Tp C (kK dl sk dc) w C' (wZ dl v1 v2 mb es) W)(hb:w.heap.size≤b)(hbs:kJ W b)(hes:wY Bq)
  (Fx:aO Tp C3 (fM dl v1 v2 mb Bq x) W3) (f:Fr ((C'.grow 4 b 1).with []) (fM dl v1 v2 mb es x) W C3 (fM dl v1 v2 mb Bq x) W3)
  (hsz:W3.heap.size≤W4.heap.size) (ho:W4.os=W3.os) (ht:W4.tape=W3.tape) (hu:W4.output=W3.output)
  (hX:∀ c,X c→¬ C.F c∧(c=mb∨w.heap.size≤c)∧c<W.heap.size∧c≠b∧(kJ W c∨c<w.heap.size)) (hk:∀ c,c<W3.heap.size→¬ X c→W4.heap[c]? = W3.heap[c]?) :
  ∃ C4,aDr Tp C (kK dl sk dc) w C4 (wZ dl v1 v2 mb Bq) W4∧KeepsFrom w.heap.size W W4∧KpG C.F W W4:=by
 obtain ⟨hFI,hM,fI⟩:=hI;have gι:∀ i,i<4→(C'.grow 4 b 1).ι i=C'.ι i:=fun i hi=>by
  have:i≠4:=by omega
  simp [Cx.grow,this]
 have ιC:∀ i,i<4→C'.ι i=C.ι i:=fun i hi=>by
  obtain ⟨o,h1,_⟩:=dV (dl:=dl) (sk:=sk) (dc:=dc) i hi;exact (fI.ids i o h1).2.1
 have κC:∀ i,i<4→C'.κ i=C.κ i:=fun i hi=>by
  obtain ⟨o,h1,_⟩:=dV (dl:=dl) (sk:=sk) (dc:=dc) i hi;exact (fI.ids i o h1).2.2
 have ι3:∀ i,i<5→C3.ι i=(C'.grow 4 b 1).ι i∧C3.κ i=(C'.grow 4 b 1).κ i:=fun i hi=>by
  have:∃ o,(fM dl v1 v2 mb es x)[i]? = some (some o):=by
   match i,hi with
   | 0,_=>exact ⟨_,rfl⟩
   | 1,_=>exact ⟨_,rfl⟩
   | 2,_=>exact ⟨_,rfl⟩
   | 3,_=>exact ⟨_,rfl⟩
   | 4,_=>exact ⟨_,rfl⟩
  obtain ⟨o,h⟩:=this;exact ⟨(f.ids i o h).2.1,(f.ids i o h).2.2⟩
 have ι4:(C'.grow 4 b 1).ι 4=some b:=by simp [Cx.grow]
 have Hq:∀ (i:Nat) (o:AO) (c:Nat) (Ol:List (Value × PV)),(fM dl v1 v2 mb Ol x)[i]? = some (some o)→o.live=true→(C'.grow 4 b 1).ι i=some c→(∃ i,i<3∧C.ι i=some c)∨c=b:=fun i o c Ol h hl he=>by
  rcases Kn h with ⟨rfl,_⟩ | ⟨rfl,_⟩ | ⟨rfl,_⟩ | ⟨rfl,e⟩ | ⟨rfl,_⟩
  ·rw [gι 0 (by omega),ιC 0 (by omega)] at he;exact .inl ⟨0,by omega,he⟩
  ·rw [gι 1 (by omega),ιC 1 (by omega)] at he;exact .inl ⟨1,by omega,he⟩
  ·rw [gι 2 (by omega),ιC 2 (by omega)] at he;exact .inl ⟨2,by omega,he⟩
  ·cases e;cases hl
  ·rw [ι4] at he;exact .inr (Option.some.inj he).symm
 have Km:∀ i c,i<3→C.ι i=some c→c<w.heap.size∧c≠mb:=fun i c hi hc=>by
  obtain ⟨o,h1,h2⟩:=dV (dl:=dl) (sk:=sk) (dc:=dc) i (by omega)
  refine ⟨B1.lt i o c h1 h2 hc,fun e => ?_⟩
  subst e;have:=B1.inj i 3 o _ c h1 h2 rfl rfl hc hmb;omega
 have Xn3:∀ c,X c→∀ i,i<3→C.ι i≠some c:=fun c hc i hi he=>by
  obtain ⟨h1,h2⟩:=Km i c hi he
  rcases (hX c hc).2.1 with h3 | h3
  ·exact h2 h3
  ·omega
 have far:∀ c,c<W.heap.size→c≠b→(∀ i,i<3→C.ι i≠some c)→¬ X c→W4.heap[c]? = W.heap[c]? := fun c hc hcb hn hx=>by
  refine (hk c (B5 hc f.size) hx).trans (f.keep c hc fun i o h hl he => ?_)
  rcases Hq i o c _ h hl he with ⟨j,hj,h2⟩ | h2
  ·exact hn j hj h2
  ·exact hcb h2
 have XF3:∀ c,X c→¬ C3.F c:=fun c hc hf=>by
  obtain ⟨h1,h2,h3,h4,_⟩:=hX c hc
  rcases f.F2 c hf with h | h | ⟨i,o,q1,q2,q3⟩
  ·exact h1 ((hFI c).1 h)
  ·omega
  ·rcases Hq i o c _ q1 q2 q3 with ⟨j,hj,h5⟩ | h5
   ·exact Xn3 c hc j hj h5
   ·exact h4 h5
 obtain ⟨Nj,_⟩:=aCj Fx hsz (fun c hc=>hk c (Fx.Fs c hc) fun hx=>XF3 c hx hc) (fun i o c h hl hc=>hk c (Fx.lt i o c h hl hc) fun hx=>by
  have Ur:i<5:=(A2.1 h).1;rw [(ι3 i Ur).1] at hc
  rcases Hq i o c _ h hl hc with ⟨j,hj,h5⟩ | h5
  ·exact Xn3 c hx j hj h5
  ·exact (hX c hx).2.2.2.1 h5)
 have Iu:aO Tp C3 (wZ dl v1 v2 mb Bq) W4:=bNs Nj (fun i o h=>by
   have hi:i<4:=(A2.1 h).1
   match i,hi with
   | 0,_=>exact h
   | 1,_=>exact h
   | 2,_=>exact h
   | 3,_=>exact h) (fun i ty cs h y hy u hu=>by
   rcases at4 h with ⟨rfl,e⟩ | ⟨rfl,e⟩ | ⟨rfl,e⟩ | ⟨rfl,e⟩
   ·cases e
    rw [List.mem_singleton.1 hy] at hu ⊢
    exact aLy (M:=fM dl v1 v2 mb Bq x) rfl hu
   ·cases e
    simp only [gG,List.not_mem_nil,or_false] at hy
    rcases hy with rfl | rfl | rfl | rfl | rfl
    ·exact sA hu
    ·exact sA hu
    ·exact sA hu
    ·exact aRc (M:=fM dl v1 v2 mb Bq x) rfl hu
    ·exact sA hu
   ·cases e
   ·cases e)
 have Us:∀ i (c:Nat),i<4→C3.ι i=some c→C.ι i=some c:=fun i c hi hc=>by rw [(ι3 i (by omega)).1,gι i hi,ιC i hi] at hc;exact hc
 have Ut:aO Tp ⟨C3.ι,C3.κ,C.F,[]⟩ (wZ dl v1 v2 mb Bq) W4:=by
  refine ⟨fun i ty n cs h => ?_,fun i ty cs h => ?_,fun i Ol cl h => ?_,Iu.inj,fun i o c h hl hc => ?_,fun c hc=>B5 (B1.Fs c hc) (fL fI.size (fL f.size hsz)),Iu.lt⟩
  ·rcases at4 h with ⟨rfl,e⟩ | ⟨rfl,e⟩ | ⟨rfl,e⟩ | ⟨rfl,e⟩ <;> cases e
  ·obtain ⟨b',arr,q0,q1,q2,q3,q4⟩:=Iu.box _ _ _ h
   refine ⟨b',arr,q0,q1,q2,fun j hj => ?_,q4⟩
   have hq:=q3 j hj;have hp:∀ (y:PV) (u:Value),ffP y=true→Rep C3 (wZ dl v1 v2 mb Bq) W4 (.p y) u→Rep ⟨C3.ι,C3.κ,C.F,[]⟩ (wZ dl v1 v2 mb Bq) W4 (.p y) u:=fun y u hy hu=>by
    cases hu with
    | p _ _ h=>exact .p _ _ (h.anyF hy)
   rcases at4 h with ⟨rfl,e⟩ | ⟨rfl,e⟩ | ⟨rfl,e⟩ | ⟨rfl,e⟩
   ·cases e
    have:j=0:=by simp at hj;exact hj
    subst this;simp only [List.getElem_cons_zero] at hq ⊢
    cases hq with
    | ptr _ _ _ h0 ha h hp=>exact .ptr _ _ _ h0 ha h hp
   ·cases e
    match j,hj with
    | 0,_=>exact hp _ _ rfl hq
    | 1,_=>exact hp _ _ rfl hq
    | 2,_=>exact hp _ _ rfl hq
    | 3,_ =>
     simp only [List.getElem_cons_succ,List.getElem_cons_zero] at hq ⊢
     cases hq with
     | mp _ _ h0 ha h=>exact .mp _ _ h0 ha h
    | 4,_=>exact hp _ _ rfl hq
   ·cases e
   ·cases e
  ·obtain ⟨b',arr,q0,q1,q2,q3⟩:=Iu.mp _ _ _ h
   refine ⟨b',arr,q0,q1,q2,fun j hj => ?_⟩
   obtain ⟨en,r1,r2,r3,r4⟩:=q3 j hj;have hff:ffP Ol[j].2=true:=by
    rcases at4 h with ⟨rfl,e⟩ | ⟨rfl,e⟩ | ⟨rfl,e⟩ | ⟨rfl,e⟩
    ·cases e
    ·cases e
    ·cases e;exact hes.nm _ (eT hj)
    ·cases e
   exact ⟨en,r1,r2,r3,r4.anyF hff⟩
  ·have hi:=rZ h hl
   obtain ⟨o2,h1,h2⟩:=dV (dl:=dl) (sk:=sk) (dc:=dc) i (by omega)
   exact B1.nF i o2 c h1 h2 (Us i c (by omega) hc)
 refine ⟨⟨C3.ι,C3.κ,C.F,[]⟩,⟨fun c=>Iff.rfl,Ut,⟨ho.trans (f.os.trans fI.os),ht.trans (f.tape.trans fI.tape),hu.trans (f.out.trans fI.out),fL fI.size (fL f.size hsz),fun c hc hno => ?_,fun i o h => ?_,fun i o h ty n cs hm => ?_,fun i o h o' hm hl => ?_,fun i o c hm hl hc => ?_,fun c hc=>hc,fun c hc => .inl hc⟩⟩,⟨fL f.size hsz,fun c o hc Nm hnc => ?_⟩,⟨fL f.size hsz,fun c hc => ?_⟩⟩
 ·have Ku:∀ i,i<3→C.ι i≠some c:=fun i hi=>by
   obtain ⟨o,h1,h2⟩:=dV (dl:=dl) (sk:=sk) (dc:=dc) i (by omega)
   exact hno i o h1 h2
  have hcm:c≠mb:=fun e=>hno 3 _ rfl rfl (e ▸ hmb)
  refine (far c (B5 hc fI.size) (by omega) Ku fun hx => ?_).trans (fI.keep c hc hno)
  rcases (hX c hx).2.1 with h | h
  ·exact hcm h
  ·omega
 ·have hi:i<4:=(A2.1 h).1
  refine ⟨?_,by show C3.ι i=C.ι i;rw [(ι3 i (by omega)).1,gι i hi,ιC i hi],by
   show C3.κ i=C.κ i;rw [(ι3 i (by omega)).2,← κC i hi]
   have:i≠4:=by omega
   simp [Cx.grow,this]⟩
  match i,hi with
  | 0,_=>exact ⟨_,rfl⟩
  | 1,_=>exact ⟨_,rfl⟩
  | 2,_=>exact ⟨_,rfl⟩
  | 3,_=>exact ⟨_,rfl⟩
 ·rcases at4 hm with ⟨rfl,e⟩ | ⟨rfl,e⟩ | ⟨rfl,e⟩ | ⟨rfl,e⟩ <;> cases e
 ·have hi:i<4:=(A2.1 h).1
  obtain ⟨o2,h1,h2⟩:=dV (dl:=dl) (sk:=sk) (dc:=dc) i hi;rw [h] at h1;cases h1;exact h2
 ·have hi:=rZ hm hl
  have Qk:i<4:=by omega
  obtain ⟨o2,h1,h2⟩:=dV (dl:=dl) (sk:=sk) (dc:=dc) i Qk;exact .inr ⟨i,o2,h1,h2,by rw [← ιC i Qk,← gι i Qk,← (ι3 i (by omega)).1];exact hc⟩
 ·refine (far c (bM Nm) (fun e => ?_) (fun i hi he => ?_) fun hx => ?_).trans Nm
  ·subst e
   obtain ⟨o2,e1,e2⟩:=hbs;rw [Nm] at e1;cases e1;rw [hnc] at e2;cases e2
  ·have:=(Km i c hi he).1
   omega
  ·rcases (hX c hx).2.2.2.2 with ⟨o2,h1,h2⟩ | h
   ·rw [Nm] at h1;cases h1;rw [hnc] at h2;cases h2
   ·omega
 ·refine far c (B5 (B1.Fs c hc) fI.size) (fun e => ?_) (fun i hi he => ?_) fun hx=>(hX c hx).1 hc
  ·have:=B1.Fs c hc;omega
  ·obtain ⟨o,h1,h2⟩:=dV (dl:=dl) (sk:=sk) (dc:=dc) i (by omega)
   exact B1.nF i o c h1 h2 he hc
end
end KV
end Go.Proofs
end
section
namespace Go.Proofs
open Go.RowKit
namespace KV
open Tryz
open Go.ChangeMaps (setBlock)

def sH(e:Ent):Int × Lqq:=(e.k,e.l)
theorem bVy(L:List Ent)(e:Ent):(nT L e).map sH=aDq (L.map sH) e.k e.l:=by
 by_cases h:∃ y∈L,y.k=e.k
 ·obtain ⟨y,hy,he⟩:=h
  rw [rD hy he];unfold aDq;rw [if_pos (List.any_eq_true.2 ⟨sH y,dH.2 ⟨y,hy,rfl⟩,by simpa [sH] using he⟩),sE,sE]
  refine yO fun z _ => ?_
  by_cases hk:z.k=e.k
  ·simp [sH,hk]
  ·simp [sH,hk]
 ·have h':∀ y∈L,y.k≠e.k:=fun y hy he=>h ⟨y,hy,he⟩
  rw [vP h'];unfold aDq;rw [if_neg (fun ha=>by
   obtain ⟨z,hz,he⟩:=List.any_eq_true.1 ha;obtain ⟨y,hy,rfl⟩:=dH.1 hz;exact h' y hy (by simpa [sH] using he))]
  simp [sH]
theorem bNj(L:List Ent)(k:Int):nS L k=yD (L.map sH) k:=by
 unfold nS rC yD
 induction L with
 | nil=>rfl
 | cons y r ih =>
  rw [gT,List.find?_cons,List.find?_cons]
  by_cases hk:y.k=k
  ·simp [sH,hk]
  ·have h1:(y.k == k)=false:=by simpa using hk
   have h2:((sH y).1 == k)=false:=h1;rw [h1,h2];exact ih

structure bHb (x:List Int):Prop where
 len:x.length=6
 n:1≤dN x∧dN x≤9999
 ab:0≤dAb x∧dAb x≤9998
theorem bVz{q:Lqq}(hq:∀ y∈q,bHb y):∀ e∈q.foldl iC [],e.2.length≤q.length:=fun e he=>by
 have:=wX q [] [] ⟨by simp,fun e h=>(by cases h),fun x h=>(by cases h)⟩ (fun x hx=>(hq x hx).ab.1)
 rw [List.nil_append] at this
 rw [(this.mem e he).2.2];exact aBa _ _

theorem Nn{dl:Int}{v1 v2:Value}{mb:Nat}{es:List (Value × PV)}{x:List Int}(hx:bHb x)(hes:wY es):eB Tp 5 (sub (cd Tryz.f45) bi) ⟨fr 57 [(6,(.ptr 0 0)),(8,(.ptr 4 0))],fM dl v1 v2 mb es x⟩ .normal ⟨fr 57 [(6,(.ptr 0 0)),(8,(.ptr 4 0))],fM dl v1 v2 mb (jO es x) x⟩:=by
 obtain ⟨a,b,c,d,e,f,rfl⟩:=Az hx.len;have hk : -1000000≤dN [a,b,c,d,e,f]∧dN [a,b,c,d,e,f]≤1000000:=by have:=hx.n;omega
 have hK:=hes.keys hk;unfold jO;cases hb:cV es (.int .i64 (dN [a,b,c,d,e,f])) with
 | true =>
  rw [if_pos rfl];exact (bNm hK hb).cast (by unfold fM;rw [bHe];rfl)
 | false =>
  rw [if_neg (by simp)]
  exact (bNn hK hb).cast (by unfold fM;rw [fK];rfl)
theorem Np{dl:Int}{v1 v2:Value}{mb:Nat}{es:List (Value × PV)}{x:List Int}(hx:x.length=6):eB Tp 5 (sub (cd Tryz.f45) bc) ⟨fr 57 [(6,(.ptr 0 0)),(8,(.ptr 4 0))],fM dl v1 v2 mb es x⟩ .normal ⟨fr 57 [(6,(.ptr 0 0)),(8,(.ptr 4 0)),(39,(.p (blP (decide (dAb x > (0:Int))))))],fM dl v1 v2 mb es x⟩:=by
 obtain ⟨a,b,c,d,e,f,rfl⟩:=Az hx;exact bNo
theorem bBs:sub (cd Tryz.f45) [1,1,1,1,0,1,0,1] = .block 1 (.seq (sub (cd Tryz.f45) bi) (.seq (sub (cd Tryz.f45) bc) (.cond (.tmp 39) (sub (cd Tryz.f45) ax) .skip))):=by kernel_rfl

section
variable {dl:Int} {sk dc:Lqq} {v1 v2:Value} {mb:Nat} {C C':Cx} {w W:World}
set_option maxHeartbeats 1000000 in
theorem bHc{l n b:Nat}{q:Lqq}{x:List Int}{ea:Array MapEntry}{cl:Nat}{L:List Ent}{a:Act}(hx:bHb x)(hq:∀ y∈q,bHb y)(hql:q.length≤1000)(B1:aO Tp C (kK dl sk dc) w)(hmb:C.ι 3=some mb)(hI:aLu dl sk dc v1 v2 C w mb q W C' ea cl L)
  (hsz:a.tmps.size=57) (hdf:a.defers=[]) (h6:Rep C (kK dl sk dc) w (.ptr 0 0) (a.tmps.getD 6 undef)) (h8:a.tmps.getD 8 undef = .pointer (some ⟨b,0,none⟩)) (hbw:w.heap.size≤b) (hbx:W.heap[b]? = some (.cells (vsL x).toArray 84 (0,0)))
  (hbn:∀ es cl,W.heap[mb]? = some (.map es cl)→∀ y∈es.toList,y.val.ownBlock≠some b) :
  (sub (cd Tryz.f45) [1,1,1,1,0,1,0,1]).wpIn (Fen (some l)) n Tp (fun e _ W4=>e = .normal∧KeepsFrom w.heap.size W W4∧KpG C.F W W4∧∃ C4 Md Cp L',aLu dl sk dc v1 v2 C w mb (q++[x]) W4 C4 Md Cp L') a W:=by
 obtain ⟨inv,hok,hls,hborn,hhas⟩:=hI;obtain ⟨hFI,hM,fI⟩:=inv;have hAt:wY (atF q):=bHd fun y hy=>by have:=(hq y hy).n;omega
 have hmbh:=(hhas (mb,.map ea cl) (by simp [gB])).1
 have hmblt:mb<w.heap.size:=B1.lt 3 _ mb rfl rfl hmb;have ιC:∀ i,i<4→C'.ι i=C.ι i:=fun i hi=>by
  obtain ⟨o,h1,_⟩:=dV (dl:=dl) (sk:=sk) (dc:=dc) i hi;exact (fI.ids i o h1).2.1
 have Km:∀ i c,i<3→C.ι i=some c→c<w.heap.size∧c≠mb:=fun i c hi hc=>by
  obtain ⟨o,h1,h2⟩:=dV (dl:=dl) (sk:=sk) (dc:=dc) i (by omega)
  refine ⟨B1.lt i o c h1 h2 hc,fun e => ?_⟩
  subst e;have:=B1.inj i 3 o _ c h1 h2 rfl rfl hc hmb;omega
 have hbF:¬ C'.F b:=fun h=>by have:=B1.Fs b ((hFI b).1 h);omega
 obtain ⟨Iu,Sg⟩:=aLz (b:=b) (ty:=84) (k:=4) (cs:=x.map aA) (arr:=(vsL x).toArray) hM (fun o h=>by have:=(A2.1 h).1;simp at this) hbx hbF (fun i o h hl he=>by
   have hi:=rZ h hl;rw [ιC i (by omega)] at he
   have:=(Km i b (by omega) he).1
   omega) (by simp [vsL]) (fun j hj=>by
   have Bp:j<x.length:=by simpa using hj
   rw [kD];have:(vsL x).toArray.getD j undef = .int .i64 x[j]:=by simp [vsL,A4,Bp]
   rw [this];exact .v _) (fun j hj=>by
   have Bp:j<x.length:=by simpa using hj
   have:(vsL x).toArray.getD j undef = .int .i64 x[j]:=by simp [vsL,A4,Bp]
   rw [this];rfl)
 have hset:aT (wZ dl v1 v2 mb (atF q)) 4 (some (.box 84 ((x.map aA).map .p)))=fM dl v1 v2 mb (atF q) x:=rfl;rw [hset] at Iu Sg
 have Oi:Rep (C'.grow 4 b 1) (fM dl v1 v2 mb (atF q) x) W (.ptr 0 0) (a.tmps.getD 6 undef):=(h6.mono (B1.le fI)).mono Sg;have hSl:dO (C'.grow 4 b 1) (fM dl v1 v2 mb (atF q) x) W (fr 57 [(6,(.ptr 0 0)),(8,(.ptr 4 0))]) a.tmps:=by
  have s0:dO (C'.grow 4 b 1) (fM dl v1 v2 mb (atF q) x) W (List.replicate 57 .any) a.tmps:=⟨by simpa using hsz,fun j hj=>by rw [List.getElem_replicate];exact .any _⟩
  have set1:∀ (t:List AV) (i:Nat) (y:AV),dO (C'.grow 4 b 1) (fM dl v1 v2 mb (atF q) x) W t a.tmps→Rep (C'.grow 4 b 1) (fM dl v1 v2 mb (atF q) x) W y (a.tmps.getD i undef)→dO (C'.grow 4 b 1) (fM dl v1 v2 mb (atF q) x) W (t.set i y) a.tmps:=fun t i y ht hy=>by
   refine ⟨by simpa using ht.size,fun j hj => ?_⟩
   rw [wH]
   split
   ·rename_i e;subst e;exact hy
   ·exact ht.rep j (by simpa using hj)
  have Oj:Rep (C'.grow 4 b 1) (fM dl v1 v2 mb (atF q) x) W (.ptr 4 0) (a.tmps.getD 8 undef):=by
   rw [h8];exact .ptr 4 0 _ rfl ⟨_,rfl⟩ (fun o ho hl=>⟨b,rfl,by simp [Cx.grow]⟩) ⟨b,rfl⟩
  exact set1 _ 8 _ (set1 _ 6 _ s0 Oi) Oj
 have hs:Sim Tp ((C'.grow 4 b 1).with []) (fM dl v1 v2 mb (atF q) x) W ⟨fr 57 [(6,(.ptr 0 0)),(8,(.ptr 4 0))],fM dl v1 v2 mb (atF q) x⟩ a W :=
  ⟨C'.grow 4 b 1,hSl,Iu,(Fr.refl _ _ _).based [],by rw [hdf];exact .nil rfl (fun i o h=>by rcases Kn h with ⟨rfl,e⟩ | ⟨rfl,e⟩ | ⟨rfl,e⟩ | ⟨rfl,e⟩ | ⟨rfl,e⟩ <;> cases e <;> rfl)⟩
 rw [bBs];refine wpIn_block (wpIn_seq (wpIn_mono (Nn (dl:=dl) (v1:=v1) (v2:=v2) (mb:=mb) hx hAt _ _ _ _ _ (by simp) hs (some l) n) ?_))
 rintro e a7 W7 ⟨rfl,P4⟩;refine wpIn_seq (wpIn_mono (Np (dl:=dl) (v1:=v1) (v2:=v2) (mb:=mb) hx.len _ _ _ _ _ (by simp) P4 (some l) n) ?_)
 rintro e a8 W3 ⟨rfl,Qe⟩;have v39:a8.eval (.tmp 39) = .bool (decide (dAb x > 0)):=Qe.slot rfl;have Qg:a8.tmps.size=57:=Qe.size;obtain ⟨C3,H0,Fx,f3,_⟩:=Qe;have hblkL:∀ p∈gB mb ea cl L,p.1≠b∧p.1<W.heap.size∧(∀ i,i<3→C.ι i≠some p.1):=fun p hp=>by
  obtain ⟨q1,q2,q3⟩:=hhas p hp;refine ⟨?_,bM q1,fun i hi he => ?_⟩
  ·rcases cJ.1 hp with rfl | ⟨y,hy,rfl⟩
   ·intro e;simp only at e;omega
   ·intro e
    obtain ⟨z,hz,_,z2⟩:=hok.e2 y hy;exact hbn ea cl hmbh z hz (by rw [z2,← e];rfl)
  ·obtain ⟨h1,h2⟩:=Km i _ hi he
   rcases q3 with h | h
   ·exact h2 h
   ·omega
 have gι:∀ i,i<4→(C'.grow 4 b 1).ι i=C'.ι i:=fun i hi=>by
  have:i≠4:=by omega
  simp [Cx.grow,this]
 have Si:∀ p∈gB mb ea cl L,W3.heap[p.1]? = some p.2:=fun p hp=>by
  obtain ⟨h1,h2,h3⟩:=hblkL p hp;refine (f3.keep p.1 h2 fun i o h hl he => ?_).trans (hhas p hp).1
  change (C'.grow 4 b 1).ι i=some p.1 at he
  rcases Kn h with ⟨rfl,_⟩ | ⟨rfl,_⟩ | ⟨rfl,_⟩ | ⟨rfl,e⟩ | ⟨rfl,_⟩
  ·rw [gι 0 (by omega),ιC 0 (by omega)] at he;exact h3 0 (by omega) he
  ·rw [gι 1 (by omega),ιC 1 (by omega)] at he;exact h3 1 (by omega) he
  ·rw [gι 2 (by omega),ιC 2 (by omega)] at he;exact h3 2 (by omega) he
  ·cases e;cases hl
  ·simp [Cx.grow] at he;exact h1 he.symm
 have Nq:wY (jO (atF q) x):=hAt.step (by have:=hx.n;omega)
 have hSol:kJ W b:=eI hbx;refine wpIn_cond_split v39 (fun ht => ?_) fun hf => ?_
 ·-- it is about another one
  have hpos:0<dAb x:=of_decide_eq_true ht;obtain ⟨b6,a6,r0,r1,r2,r3,_⟩:=Fx.box 0 _ _ rfl;have r3:=r3 0 (by simp)
  simp only [List.getElem_cons_zero] at r3
  have u6:∃ bd,a6.getD 0 undef = .pointer (some ⟨bd,0,none⟩)∧C3.ι 1=some bd:=by
   generalize a6.getD 0 undef=u at r3
   cases r3 with
   | ptr _ _ _ h0 ha h hp=>exact h _ rfl rfl
  obtain ⟨bd,ud,ιd⟩:=u6;obtain ⟨bd',ad,s0,s1,s2,s3,_⟩:=Fx.box 1 _ _ rfl;rw [ιd] at s0;cases s0
  have s3:=s3 4 (by simp)
  simp only [List.getElem_cons_succ,List.getElem_cons_zero] at s3
  have udm:ad.getD 4 undef = .map (some mb):=by
   generalize ad.getD 4 undef=u at s3
   cases s3 with
   | p _ _ h=>cases h;rfl
  obtain ⟨b8,Qh,t0,t1,t2,t3,_⟩:=Fx.box 4 _ _ rfl;have ι4:C3.ι 4=some b:=by rw [(f3.ids 4 _ rfl).2.1];simp [Cx.with,Cx.grow]
  rw [ι4] at t0;cases t0
  have Uq:Qh=(vsL x).toArray:=by
   apply Array.ext
   ·rw [t2];simp [vsL]
   ·intro j h1 h2
    have hj:j<x.length:=by rw [t2] at h1;simpa using h1
    have:=t3 j (by simpa using hj)
    rw [kD,kD] at this
    have hu:Qh.getD j undef = .int .i64 x[j]:=by
     generalize Qh.getD j undef=u at this
     cases this with
     | p _ _ h=>cases h;rfl
    simp only [A4,pA h1,Option.getD_some] at hu
    rw [hu];simp [vsL]
  subst Uq;have w6:a8.tmps.getD 6 undef = .pointer (some ⟨b6,0,none⟩):=by
   have:=H0.at (i:=6) (x := .ptr 0 0) rfl
   generalize a8.tmps.getD 6 undef=u at this
   cases this with
   | ptr _ _ _ h0 ha h hp =>
    obtain ⟨b',h1,h2⟩:=h _ rfl rfl;rw [r0] at h2;cases h2
    exact h1
  have w8:a8.tmps.getD 8 undef = .pointer (some ⟨b,0,none⟩):=by
   have:=H0.at (i:=8) (x := .ptr 4 0) rfl
   generalize a8.tmps.getD 8 undef=u at this
   cases this with
   | ptr _ _ _ h0 ha h hp =>
    obtain ⟨b',h1,h2⟩:=h _ rfl rfl;rw [ι4] at h2;cases h2
    exact h1
  have hLl:∀ e∈L,e.l.length≤1000:=fun e he=>by
   have:sH e∈q.foldl iC []:=by rw [← hls];exact dH.2 ⟨e,he,rfl⟩
   have:=bVz hq _ this;simp only [sH] at this
   omega
  have ι0:C.ι 0=some b6:=by
   have:=(f3.ids 0 _ rfl).2.1;rw [r0] at this
   rw [← ιC 0 (by omega),← gι 0 (by omega)]
   exact this.symm
  have ι1:C.ι 1=some bd:=by
   have:=(f3.ids 1 _ rfl).2.1;rw [ιd] at this
   rw [← ιC 1 (by omega),← gι 1 (by omega)]
   exact this.symm
  refine wpIn_mono (Qi (F:=Fen (some l)) (n:=n) (fun _=>trivial) hx.len Qg w6 w8 r1 ⟨by rw [r2];simp,ud⟩ s1 ⟨by rw [s2];simp,udm⟩ t1 hok Si hLl (fun p hp => ?_) ?_) ?_
  ·obtain ⟨h1,_,h3⟩:=hblkL p hp
   exact ⟨fun e=>h3 0 (by omega) (e ▸ ι0),fun e=>h3 1 (by omega) (e ▸ ι1),h1⟩
  ·have:aKc .i64 (.int .i64 (dAb x))=true:=mL (by have:=hx.ab;omega)
   simp only [aKc,Bg] at this
   exact this.2
  ·rintro e a9 W4 ⟨rfl,Md,Cp,e,A⟩
   obtain ⟨C4,Nr,Nh,Qj⟩:=aUl (x:=x) (X:=fun c=>∃ p∈gB mb ea cl L,p.1=c) (Bq:=jO (atF q) x) B1 hmb ⟨hFI,hM,fI⟩ hbw hSol Nq Fx f3 A.size A.os A.tape A.out (fun c hc=>by
    obtain ⟨p,hp,rfl⟩:=hc;obtain ⟨h1,h2,h3⟩:=hblkL p hp;obtain ⟨g1,g2,g3⟩:=hhas p hp;refine ⟨fun h=>g2 ((hFI _).2 h),g3,h2,h1,?_⟩
    rcases cJ.1 hp with rfl | ⟨y,_,rfl⟩
    ·exact .inr hmblt
    ·exact .inl (eI g1)) (fun c hc hn=>A.keep c hc fun p hp e=>hn ⟨p,hp,e⟩)
   refine ⟨rfl,Nh,Qj,C4,Md,Cp,nT L e,by rw [aLt];exact Nr,A.ok,?_,A.born hborn,fun p hp => ?_⟩
   ·show (nT L e).map sH=_
    rw [bVy,A.ky,A.li,bNj,aDk];change aDq (L.map sH) _ _=iC (q.foldl iC []) x;have:L.map sH=q.foldl iC []:=hls;rw [this];unfold iC;rw [if_pos hpos]
   ·obtain ⟨h1,h2⟩:=A.has p hp
    refine ⟨h1,fun h => ?_,?_⟩
    ·have hF:=(Nr.1 _).1 h
     rcases h2 with ⟨p0,G3,h3⟩ | h3
     ·rw [← h3] at hF
      exact (hhas p0 G3).2.1 ((hFI _).2 hF)
     ·have:=B1.Fs _ hF
      have:=fI.size;have:=f3.size;omega
    ·rcases h2 with ⟨p0,G3,h3⟩ | h3
     ·rw [← h3];exact (hhas p0 G3).2.2
     ·right
      have:=fI.size;have:=f3.size;omega
 ·-- it is about none
  have hpos:¬ 0<dAb x:=of_decide_eq_false hf;obtain ⟨C4,Nr,Nh,Qj⟩:=aUl (x:=x) (X:=fun _=>False) (W4:=W3) (Bq:=jO (atF q) x) B1 hmb ⟨hFI,hM,fI⟩ hbw hSol Nq Fx f3 (cP _) rfl rfl rfl (fun c hc=>hc.elim) (fun c _ _=>rfl)
  refine wpIn_skip ⟨rfl,Nh,Qj,C4,ea,cl,L,by rw [aLt];exact Nr,hok,?_,hborn,fun p hp=>⟨Si p hp,fun h=>(hhas p hp).2.1 ((hFI _).2 ((Nr.1 _).1 h)),(hhas p hp).2.2⟩⟩
  rw [aDk,hls];change _=iC (q.foldl iC []) x;unfold iC;rw [if_neg hpos]
end
end KV
end Go.Proofs
end
section
namespace Go.Proofs
open Go.RowKit
namespace KV
open Tryz
open Go.ChangeMaps (setBlock)

def abE(dc:Lqq):List (Value × PV):=(abM dc).map fun e=>(.int .i64 e.1,.sl e.2.length (e.2.flatten.map aA))
abbrev yE(dl:Int)(sk dc:Lqq):Mem:=[some (.box 106 [.ptr 1 0]),some (dkB dl (.sl sk.length (sk.flatten.map aA)) (.sl dc.length (dc.flatten.map aA)) (.mp 2) (.p (.mp (abE dc)))),some (.mp (atF dc.reverse) (atF dc.reverse).length),some .dead]
theorem aUi : sub (cd Tryz.f45) [1, 1, 1, 1, 0, 1, 0] = .rangeFunc (.tmp 27) #[28, 29] (.region 6 #[{ dst := some 8, op := .alloc 84, type := 0, pos := "jury.go:198", after := #[], guard := none }, { dst := none, op := .store 84 (.tmp 8) (.tmp 29), type := 0, pos := "jury.go:198", after := #[{ on := 0, ground := .data }, { on := 0, ground := .phase }], guard := none }] false) (sub (cd Tryz.f45) [1, 1, 1, 1, 0, 1, 0, 1]) := by kernel_rfl
theorem aRa{dc:Lqq}(h:bS dc):∀ x∈dc,bHb x:=fun x hx=>⟨h.ud x hx,(gY.1 (h.rng x hx)).1,kX h x hx⟩
theorem aCf{dc:Lqq}(x:Bk dc):lG dc x.1∈dc:=by
 unfold lG;rw [Bj,Ap x.2];exact eT x.2
theorem bHa{dc:Lqq}{xs:List (Bk dc)}(h:xs.map (fun x=>x.1)=bk dc.length 0):xs.map (fun x=>lG dc x.1)=dc.reverse:=by
 have:xs.map (fun x=>lG dc x.1)=(xs.map (fun x=>x.1)).map (lG dc):=by rw [sE];rfl
 rw [this,h,bNv,List.map_reverse]
 congr 1
 apply List.ext_getElem
 ·simp
 ·intro i h1 h2
  simp [lG,Bj,Ap h2]

theorem aRb{F:Nat→Prop}{W:World}{mb cl:Nat}{ea:Array MapEntry}{L:List Ent}{dc:Lqq}(hok:kL mb ea L)(hls:L.map (fun e=>(e.k,e.l))=abM dc)(hborn:∀ y∈ea.toList,y.born<cl)
  (hhas:∀ p∈gB mb ea cl L,W.heap[p.1]? = some p.2∧F p.1):bW F W (.mp (abE dc)) (.map (some mb)):=by
 have hlen:ea.size=L.length:=by
  have:=congrArg List.length hok.ord;simpa using this
 have habE:abE dc=L.map fun e=>(.int .i64 e.k,.sl e.l.length (e.l.flatten.map aA)):=by
  unfold abE;rw [← hls,sE];rfl
 obtain ⟨h0,Kl⟩:=hhas (mb,.map ea cl) (by simp [gB])
 refine bW.mp (abE dc) mb cl ea (fun j=>(L.map Ent.val).getD j undef) Kl h0 (by rw [habE];simpa using hlen) (fun j hj => ?_) (fun j hj => ?_)
 ·have hjL:j<L.length:=by rw [habE] at hj;simpa using hj
  have hje:j<ea.size:=by omega
  have ho:(ea.toList.map fun x=>(x.key,x.val))[j]? = (L.map fun e=>(Value.int .i64 e.k,e.val))[j]? := by rw [hok.ord]
  rw [B6,B6,Ap hjL,Ap (by simpa using hje)] at ho
  simp only [Option.map_some,Option.some.injEq,Prod.mk.injEq] at ho
  refine ⟨ea[j],pA hje,?_,hborn _ (by simp),?_⟩
  ·simp only [habE,kD]
   simpa using ho.1
  ·rw [Bj,B6,Ap hjL]
   simpa using ho.2
 ·have hjL:j<L.length:=by rw [habE] at hj;simpa using hj
  have hm:L[j]∈L:=eT hjL;have e1:(abE dc)[j].2 = .sl L[j].l.length (L[j].l.flatten.map aA):=by simp only [habE,kD]
  have e2:(L.map Ent.val).getD j undef=L[j].val:=by rw [Bj,B6,Ap hjL];rfl
  rw [e1,e2];generalize L[j]=e at hm
  have he:=hok.ok e hm;obtain ⟨g1,g2⟩:=hhas e.blk (cJ.2 (.inr ⟨e,hm,rfl⟩));change W.heap[e.b]? = some (.cells e.arr 84 (0,0)) at g1
  have hfl:(e.l.flatten.map aA).length=e.l.length*6:=by rw [A8,oH he.u]
  have hcell:∀ i,i<(e.l.flatten.map aA).length→∃ z,e.l.flatten[i]? = some z∧e.arr[i]? = some (.int .i64 z):=fun i hi=>by
   have B2:i<e.l.flatten.length:=by rw [A8] at hi;exact hi
   refine ⟨e.l.flatten[i],Ap B2,?_⟩;have h1:(e.arr.toList.take (e.l.length*6))[i]? = (e.l.flatten.map (Value.int .i64))[i]? := by rw [he.at_]
   rw [List.getElem?_take_of_lt (by omega),B6,Ap B2] at h1
   simpa using h1
  refine .sl _ _ _ _ (fun i=>e.arr.getD i undef) he.le he.cap (fun i hi => ?_) (fun i hi => ?_) (fun i hi => ?_)
  ·obtain ⟨z,_,h2⟩:=hcell i hi
   refine ⟨e.b,0,rfl,g2,?_⟩;obtain ⟨h3,h4⟩:=kP.1 h2;rw [fE,bH g1 h3]
  ·obtain ⟨z,h1,h2⟩:=hcell i hi
   have:e.arr.getD i undef = .int .i64 z:=by rw [A4,h2];rfl
   rw [this,kD];obtain ⟨h3,h4⟩:=A2.1 h1;rw [h4];exact .v _
  ·obtain ⟨z,h1,h2⟩:=hcell i hi
   have:e.arr.getD i undef = .int .i64 z:=by rw [A4,h2];rfl
   rw [this];rfl
end KV
end Go.Proofs
end
section
namespace Go.Proofs
open Go.RowKit
namespace KV
open Tryz
open Go.ChangeMaps (setBlock)
section
variable {dl:Int} {sk dc:Lqq} {v1 v2:Value} {mb:Nat} {C C':Cx} {w W:World}

theorem bBq{Kk:Array MapEntry}(hM:aO Tp C (kK dl sk dc) w)(hmb:C.ι 3=some mb)(hmh:w.heap[mb]? = some (.map #[] 0))
  {bd:Nat} {ad:Array Value} {td:TypeId} (i1:C.ι 1=some bd) (hd:w.heap[bd]? = some (.cells ad td (0,0))) (q1:ad.getD 1 undef=v1) (q2:ad.getD 2 undef=v2):aLu dl sk dc v1 v2 C w mb [] w C #[] 0 []:=by
 have Kl:∀ (i:Nat) (o:AO),(wZ dl v1 v2 mb [])[i]? = some (some o)→o.live=true→∃ o',(kK dl sk dc)[i]? = some (some o')∧o'.live=true:=fun i o h hl=>by
  have hi:=rZ h hl;exact dV i (by omega)
 refine ⟨⟨fun _=>Iff.rfl,⟨fun i ty n cs h => ?_,fun i ty cs h => ?_,fun i es cl h => ?_,fun i i' o o' b h1 l1 h2 l2 e1 e2 => ?_,fun i o b h hl hb => ?_,hM.Fs,fun i o b h hl hb => ?_⟩,
  ⟨rfl,rfl,rfl,cP _,fun _ _ _=>rfl,fun i o h=>⟨?_,rfl,rfl⟩,fun i o h ty n cs hx => ?_,fun i o h o' hx hl => ?_,fun i o b h hl hb => ?_,fun _ h=>h,fun _ h => .inl h⟩⟩,kL.nil mb,rfl,fun y h=>by simp at h,fun p hp => ?_⟩
 ·rcases at4 h with ⟨rfl,e⟩ | ⟨rfl,e⟩ | ⟨rfl,e⟩ | ⟨rfl,e⟩ <;> cases e
 ·rcases at4 h with ⟨rfl,e⟩ | ⟨rfl,e⟩ | ⟨rfl,e⟩ | ⟨rfl,e⟩
  ·cases e
   obtain ⟨b,arr,r0,r1,r2,r3,r4⟩:=hM.box 0 _ _ rfl;refine ⟨b,arr,r0,r1,r2,fun j hj => ?_,r4⟩
   have:=r3 j hj;have Qc:j=0:=by simp at hj;exact hj
   subst Qc;simp only [List.getElem_cons_zero] at this ⊢
   cases this with
   | ptr _ _ _ h0 ha h hp =>
    refine .ptr _ _ _ h0 ⟨_,rfl⟩ (fun o ho hl => ?_) hp
    exact h _ rfl rfl
  ·cases e
   obtain ⟨b,arr,r0,r1,r2,r3,r4⟩:=hM.box 1 _ _ rfl;rw [i1] at r0;cases r0
   rw [hd] at r1;cases r1
   refine ⟨bd,ad,i1,hd,r2,fun j hj => ?_,r4⟩
   match j,hj with
   | 0,_ =>
    have:=r3 0 (by simp)
    cases this with
    | p _ _ h=>exact .p _ _ h
   | 1,_=>exact .p _ _ (by rw [q1];exact .v _)
   | 2,_=>exact .p _ _ (by rw [q2];exact .v _)
   | 3,_ =>
    have:=r3 3 (by simp)
    simp only [List.getElem_cons_succ,List.getElem_cons_zero] at this ⊢
    cases this with
    | mp _ _ h0 ha h =>
     refine .mp _ _ h0 ⟨_,rfl⟩ fun o ho hl => ?_
     exact h _ rfl rfl
   | 4,_ =>
    have:=r3 4 (by simp)
    simp only [List.getElem_cons_succ,List.getElem_cons_zero] at this ⊢
    generalize ad.getD 4 undef=u at this
    cases this with
    | mp _ _ h0 ha h =>
     obtain ⟨b,h1,h2⟩:=h _ rfl rfl;rw [hmb] at h2;cases h2
     rw [h1];exact .p _ _ (.v _)
  ·cases e
  ·cases e
 ·rcases at4 h with ⟨rfl,e⟩ | ⟨rfl,e⟩ | ⟨rfl,e⟩ | ⟨rfl,e⟩
  ·cases e
  ·cases e
  ·cases e;exact hM.mp 2 _ _ rfl
  ·cases e
 ·obtain ⟨p,q1,q2⟩:=Kl _ _ h1 l1
  obtain ⟨p',H4,H5⟩:=Kl _ _ h2 l2;exact hM.inj i i' p p' b q1 q2 H4 H5 e1 e2
 ·obtain ⟨p,q1,q2⟩:=Kl _ _ h hl
  exact hM.nF i p b q1 q2 hb
 ·obtain ⟨p,q1,q2⟩:=Kl _ _ h hl
  exact hM.lt i p b q1 q2 hb
 ·have hi:i<4:=(A2.1 h).1
  match i,hi with
  | 0,_=>exact ⟨_,rfl⟩
  | 1,_=>exact ⟨_,rfl⟩
  | 2,_=>exact ⟨_,rfl⟩
  | 3,_=>exact ⟨_,rfl⟩
 ·rcases at4 hx with ⟨rfl,e⟩ | ⟨rfl,e⟩ | ⟨rfl,e⟩ | ⟨rfl,e⟩ <;> cases e
 ·have hi:i<4:=(A2.1 h).1
  obtain ⟨p,q1,q2⟩:=dV (dl:=dl) (sk:=sk) (dc:=dc) i hi;rw [h] at q1;cases q1;exact q2
 ·obtain ⟨p,q1,q2⟩:=Kl _ _ h hl
  exact .inr ⟨i,p,q1,q2,hb⟩
 ·have:p=(mb,.map #[] 0):=by simpa [gB] using hp
  subst this;exact ⟨hmh,fun h=>hM.nF 3 _ mb rfl rfl hmb h,.inl rfl⟩

theorem bBr{ea:Array MapEntry}{cl:Nat}{L:List Ent}(B1:aO Tp C (kK dl sk dc) w)(hmb:C.ι 3=some mb)(r1:bW C.F w (.sl sk.length (sk.flatten.map aA)) v1)(r2:bW C.F w (.sl dc.length (dc.flatten.map aA)) v2)
  (hI:aLu dl sk dc v1 v2 C w mb dc.reverse W C' ea cl L) :
  ∃ C5,aO Tp C5 (yE dl sk dc) W∧Fr C (kK dl sk dc) w C5 (yE dl sk dc) W∧∀ D,W.heap[D]? = some (.deferred (some []))→w.heap.size≤D→¬ C5.F D:=by
 obtain ⟨⟨hFI,hM,fI⟩,hok,hls,hborn,hhas⟩:=hI;obtain ⟨F5,Ir⟩:∃ F5:Nat→Prop,F5=fun c=>C'.F c∨∃ p∈gB mb ea cl L,p.1=c:=⟨_,rfl⟩
 have toF:∀ c,C.F c→F5 c:=fun c hc=>by rw [Ir];exact .inl ((hFI c).2 hc)
 have Qd:∀ c,C'.F c→F5 c:=fun c hc=>by rw [Ir];exact .inl hc
 have same:∀ c,C.F c→W.heap[c]? = w.heap[c]? := fun c hc=>fI.keep c (B1.Fs c hc) fun i o h hl he=>B1.nF i o c h hl he hc
 have ιC:∀ i,i<4→C'.ι i=C.ι i:=fun i hi=>by
  obtain ⟨o,h1,_⟩:=dV (dl:=dl) (sk:=sk) (dc:=dc) i hi;exact (fI.ids i o h1).2.1
 have Ff:∀ {i:Nat} {o:AO},(yE dl sk dc)[i]? = some (some o)→o.live=true→(i=0∨i=1∨i=2)∧∃ o',(wZ dl v1 v2 mb (atF dc.reverse))[i]? = some (some o')∧o'.live=true:=fun {i o} h hl=>by
  rcases at4 h with ⟨rfl,e⟩ | ⟨rfl,e⟩ | ⟨rfl,e⟩ | ⟨rfl,e⟩
  ·exact ⟨.inl rfl,_,rfl,rfl⟩
  ·exact ⟨.inr (.inl rfl),_,rfl,rfl⟩
  ·exact ⟨.inr (.inr rfl),_,rfl,rfl⟩
  ·cases e;cases hl
 have Km:∀ i c,i<3→C.ι i=some c→c<w.heap.size∧c≠mb:=fun i c hi hc=>by
  obtain ⟨o,h1,h2⟩:=dV (dl:=dl) (sk:=sk) (dc:=dc) i (by omega)
  refine ⟨B1.lt i o c h1 h2 hc,fun e => ?_⟩
  subst e;have:=B1.inj i 3 o _ c h1 h2 rfl rfl hc hmb;omega
 refine ⟨⟨C'.ι,C'.κ,F5,[]⟩,⟨fun i ty n cs h => ?_,fun i ty cs h => ?_,fun i es cl h => ?_,fun i i' o o' b h1 l1 h2 l2 e1 e2 => ?_,fun i o b h hl hb hf => ?_,fun c hc => ?_,fun i o b h hl hb => ?_⟩,
  ⟨fI.os,fI.tape,fI.out,fI.size,fI.keep,fun i o h=>⟨?_,(fI.ids i o h).2⟩,fun i o h ty n cs hx => ?_,fun i o h o' hx hl => ?_,fun i o b h hl hb => ?_,toF,fun c hc => ?_⟩,fun D hD hDs hf => ?_⟩
 ·rcases at4 h with ⟨rfl,e⟩ | ⟨rfl,e⟩ | ⟨rfl,e⟩ | ⟨rfl,e⟩ <;> cases e
 ·rcases at4 h with ⟨rfl,e⟩ | ⟨rfl,e⟩ | ⟨rfl,e⟩ | ⟨rfl,e⟩
  ·cases e
   obtain ⟨b,arr,r0,r1,r2,r3,r4⟩:=hM.box 0 _ _ rfl;refine ⟨b,arr,r0,r1,r2,fun j hj => ?_,r4⟩
   have:=r3 j hj;have Qc:j=0:=by simp at hj;exact hj
   subst Qc;simp only [List.getElem_cons_zero] at this ⊢
   cases this with
   | ptr _ _ _ h0 ha h hp =>
    refine .ptr _ _ _ h0 ⟨_,rfl⟩ (fun o ho hl => ?_) hp
    exact h _ rfl rfl
  ·cases e
   obtain ⟨b,arr,s0,s1,s2,s3,s4⟩:=hM.box 1 _ _ rfl;have opq:∀ (j:Nat) (v:Value),Rep C' (wZ dl v1 v2 mb (atF dc.reverse)) W (.p (.v v)) (arr.getD j undef)→arr.getD j undef=v:=fun j v h=>by
    generalize arr.getD j undef=u at h
    cases h with
    | p _ _ h=>cases h;rfl
   refine ⟨b,arr,s0,s1,s2,fun j hj => ?_,s4⟩
   match j,hj with
   | 0,_ =>
    have:=s3 0 (by simp)
    cases this with
    | p _ _ h=>exact .p _ _ (h.anyF rfl)
   | 1,_ =>
    show Rep _ _ W (.p (.sl sk.length (sk.flatten.map aA))) (arr.getD 1 undef);rw [opq 1 v1 (s3 1 (by simp))]
    exact .p _ _ (r1.mono toF same)
   | 2,_ =>
    show Rep _ _ W (.p (.sl dc.length (dc.flatten.map aA))) (arr.getD 2 undef);rw [opq 2 v2 (s3 2 (by simp))]
    exact .p _ _ (r2.mono toF same)
   | 3,_ =>
    have:=s3 3 (by simp)
    simp only [List.getElem_cons_succ,List.getElem_cons_zero] at this ⊢
    cases this with
    | mp _ _ h0 ha h =>
     refine .mp _ _ h0 ⟨_,rfl⟩ fun o ho hl => ?_
     exact h _ rfl rfl
   | 4,_ =>
    show Rep _ _ W (.p (.mp (abE dc))) (arr.getD 4 undef);rw [opq 4 (.map (some mb)) (s3 4 (by simp))]
    exact .p _ _ (aRb hok hls hborn fun p hp=>⟨(hhas p hp).1,by rw [Ir];exact .inr ⟨p,hp,rfl⟩⟩)
  ·cases e
  ·cases e
 ·rcases at4 h with ⟨rfl,e⟩ | ⟨rfl,e⟩ | ⟨rfl,e⟩ | ⟨rfl,e⟩
  ·cases e
  ·cases e
  ·cases e
   obtain ⟨b,arr,s0,s1,s2,s3⟩:=hM.mp 2 _ _ rfl;refine ⟨b,arr,s0,s1,s2,fun j hj => ?_⟩
   obtain ⟨en,t1,t2,t3,t4⟩:=s3 j hj;exact ⟨en,t1,t2,t3,t4.mono Qd (fun _ _=>rfl)⟩
  ·cases e
 ·obtain ⟨_,p,q1,q2⟩:=Ff h1 l1
  obtain ⟨_,p',H4,H5⟩:=Ff h2 l2;exact hM.inj i i' p p' b q1 q2 H4 H5 e1 e2
 ·obtain ⟨hi,p,q1,q2⟩:=Ff h hl
  rw [Ir] at hf
  rcases hf with hf | ⟨p0,G3,hpb⟩
  ·exact hM.nF i p b q1 q2 hb hf
  ·have Aj:C.ι i=some b:=by rw [← ιC i (by omega)];exact hb
   obtain ⟨g1,g2⟩:=Km i b (by omega) Aj
   rcases (hhas p0 G3).2.2 with h5 | h5 <;> omega
 ·rw [Ir] at hc
  rcases hc with hc | ⟨p0,G3,rfl⟩
  ·exact hM.Fs c hc
  ·exact bM (hhas p0 G3).1
 ·obtain ⟨_,p,q1,q2⟩:=Ff h hl
  exact hM.lt i p b q1 q2 hb
 ·have hi:i<4:=(A2.1 h).1
  match i,hi with
  | 0,_=>exact ⟨_,rfl⟩
  | 1,_=>exact ⟨_,rfl⟩
  | 2,_=>exact ⟨_,rfl⟩
  | 3,_=>exact ⟨_,rfl⟩
 ·rcases at4 hx with ⟨rfl,e⟩ | ⟨rfl,e⟩ | ⟨rfl,e⟩ | ⟨rfl,e⟩ <;> cases e
 ·have hi:i<4:=(A2.1 h).1
  obtain ⟨p,q1,q2⟩:=dV (dl:=dl) (sk:=sk) (dc:=dc) i hi;rw [h] at q1;cases q1;exact q2
 ·obtain ⟨_,p,q1,q2⟩:=Ff h hl
  exact fI.new i p b q1 q2 hb
 ·rw [Ir] at hc
  rcases hc with hc | ⟨p0,G3,rfl⟩
  ·exact .inl ((hFI c).1 hc)
  ·rcases (hhas p0 G3).2.2 with h5 | h5
   ·exact .inr (.inr ⟨3,_,rfl,rfl,by rw [h5];exact hmb⟩)
   ·exact .inr (.inl h5)
 ·rw [Ir] at hf
  rcases hf with hf | ⟨p0,G3,rfl⟩
  ·have:=B1.Fs D ((hFI D).1 hf);omega
  ·have h6:=(hhas p0 G3).1
   rw [hD] at h6
   rcases cJ.1 G3 with rfl | ⟨y,_,rfl⟩ <;> cases h6
end
theorem It:∃ i,Tryz.prog.info? 84=some i∧i.zero=some Hp∧i.size=6:=by
 obtain ⟨i,h1,h2,h3,_⟩:=info_parts Et;exact ⟨i,h1,h2,h3⟩
theorem aLr(W:World):(Instr.alloc 84 true (.tuple #[])).run Tp W = .ok (.pointer (some ⟨W.heap.size,0,none⟩)) (W.alloc (.cells Hp.cells 84)):=rfl
set_option maxHeartbeats 1000000 in
theorem bGz(dl:Int)(sk dc:Lqq)(hd:bS dc):aC Tp 0 (sub (cd Tryz.f45) [1,1,1,1,0,1,0]) ⟨fr 57 [(6,(.ptr 0 0)),(27,aLv dc)],kK dl sk dc⟩ .normal ⟨fr 57 [(6,(.ptr 0 0))],yE dl sk dc⟩:=by
 intro C0 M0 w0 a w hk hs ro hro n;have Kg:ro=none:=hro.resolve_right (by rw [aUi];simp [nrf])
 subst Kg;rw [aUi];refine aBo (n:=3) ?_;obtain ⟨C,hSl,hM,hF,hD⟩:=hs;obtain ⟨mb,Kk,hmb,hmh,hz,_⟩:=hM.mp 3 _ _ rfl;obtain rfl:Kk = #[]:=Array.eq_empty_of_size_eq_zero (by simpa using hz)
 obtain ⟨bd,ad,i1,hdh,Gd,Fo,Nm⟩:=hM.box 1 _ _ rfl;have r1:bW C.F w (.sl sk.length (sk.flatten.map aA)) (ad.getD 1 undef):=by
  have:=Fo 1 (by simp)
  cases this with
  | p _ _ h=>exact h
 have r2:bW C.F w (.sl dc.length (dc.flatten.map aA)) (ad.getD 2 undef):=by
  have:=Fo 2 (by simp)
  cases this with
  | p _ _ h=>exact h
 have hmblt:mb<w.heap.size:=hM.lt 3 _ mb rfl rfl hmb;have hsz:a.tmps.size=57:=hSl.size;have h6:=hSl.at (i:=6) (x := .ptr 0 0) rfl
 obtain ⟨lb,Sp,hu,hseq⟩:=bBv dc hd.ud hd.len C (kK dl sk dc) w _ (hSl.at (i:=27) (x:=aLv dc) rfl) hM.Fs
 have actT:∀ (x:Bk dc) (b:Nat),((({ tmps:=(a.tmps.setIfInBounds 28 (.int .i64 (x.1:Nat))).setIfInBounds 29 (.agg (B4 (lG dc x.1))),defers:=[] }:Act).put (some 8) (.pointer (some ⟨b,0,none⟩))).tmps.size=57) ∧
   (({ tmps:=(a.tmps.setIfInBounds 28 (.int .i64 (x.1:Nat))).setIfInBounds 29 (.agg (B4 (lG dc x.1))),defers:=[] }:Act).put (some 8) (.pointer (some ⟨b,0,none⟩))).tmps.getD 6 undef=a.tmps.getD 6 undef ∧
   (({ tmps:=(a.tmps.setIfInBounds 28 (.int .i64 (x.1:Nat))).setIfInBounds 29 (.agg (B4 (lG dc x.1))),defers:=[] }:Act).put (some 8) (.pointer (some ⟨b,0,none⟩))).tmps.getD 8 undef = .pointer (some ⟨b,0,none⟩):=fun x b=>by
  refine ⟨by simp [Act.put,hsz],?_,?_⟩
  ·simp [Act.put,A4]
  ·simp [Act.put,A4,hsz]
 refine wpIn_rangeFunc_ownH (F:=Fen none) (n:=3) rfl (by omega) (gf:=157) (lb:=lb) hu trivial (fun args w=>rfl) hseq (fun h k=>h.trans k)
  (fun W l o o' hl h1 h2 h3=>⟨by simp,fun b hb=>(grownBy_putObj' W l o').block b (B5 (hM.Fs b hb) (fL hl (Nat.le_of_lt (kP.1 h1).1))) (fun e=>by cases e;have:=hM.Fs _ hb;omega)⟩)
  (Below.refl _ _) (fun _=>rfl)
  (fun pre W=>∃ C' ea cl L,aLu dl sk dc (ad.getD 1 undef) (ad.getD 2 undef) C w mb (pre.map fun x=>lG dc x.1) W C' ea cl L) (fun _ _ _=>False)
  (fun pre X Y row hs hg hr=>by obtain ⟨C',ea,cl,L,h⟩:=hs;exact ⟨C',ea,cl,L,h.own hM hmb hg hr⟩) (fun _ _ _ _ _ hs _ _=>hs)
  ⟨C,#[],0,[],bBq (Kk := #[]) hM hmb hmh i1 hdh rfl rfl⟩
  (fun x a' W=>∃ b,a'=(({ tmps:=(a.tmps.setIfInBounds 28 (.int .i64 (x.1:Nat))).setIfInBounds 29 (.agg (B4 (lG dc x.1))),defers:=[] }:Act).put (some 8) (.pointer (some ⟨b,0,none⟩)))∧w.heap.size≤b∧W.heap[b]? = some (.cells (vsL (lG dc x.1)).toArray 84 (0,0))∧∀ es cl,W.heap[mb]? = some (.map es cl)→∀ y∈es.toList,y.val.ownBlock≠some b)
  (fun x a' _ X Y row hs hg hr => ?hAx) ?assign ?body ?done ?stop
 case hAx =>
  obtain ⟨b,h1,h2,h3,h4⟩:=hs;have hno:∀ c,c<X.heap.size→(c<w.heap.size∨kJ X c)→Y.heap[c]? = X.heap[c]? := fun c hc hd=>hg.block c hc (fun e=>by
   obtain ⟨q1,o,q2,q3⟩:=hr c e.symm
   rcases hd with hd | hd
   ·omega
   ·exact iJ q2 q3 hd)
  refine ⟨b,h1,h2,(hno b (bM h3) (.inr (eI h3))).trans h3,fun es cl h => ?_⟩
  by_cases hlt:mb<X.heap.size
  ·rw [hno mb hlt (.inl hmblt)] at h
   exact h4 es cl h
  ·exact absurd (B5 (bM h3) (cP _)) (by omega)
 case assign =>
  intro l pre x W K hI hK;rw [Mu];obtain ⟨C',ea,cl,L,hI⟩:=hI;have hx:=aRa hd _ (aCf x);have hev:B4 (lG dc x.1)=(vsL (lG dc x.1)).toArray:=rfl;refine wpIn_region_lit (wpListIn_plain rfl fun K' P8 => ?_)
  unfold Oper.wpIn;refine ⟨fun f _=>trivial,?_⟩
  rw [Oper.semAt_plain _ _ _ (by intro c Fh;cases Fh)]
  have e1 : ∀ ρ : Operand → Value, (execOp ρ { dst := some 8, op := .alloc 84, type := 0, pos := "jury.go:198", after := #[], guard := none }).run Tp W = .ok (.value (.pointer (some ⟨W.heap.size, 0, none⟩))) (W.alloc (.cells Hp.cells 84)) := fun ρ => by
   unfold execOp;dsimp only;rw [Sem.run_bind,aLr,Result.andThen_ok,Sem.run_pure]
  rw [e1];refine P8 _ _ (wpListIn_plain rfl fun K2 Nc => ?_)
  unfold Oper.wpIn;refine ⟨fun f _=>trivial,?_⟩
  rw [Oper.semAt_plain _ _ _ (by intro c Fh;cases Fh)]
  obtain ⟨Un,hi,Lg,D9⟩:=It;have e8:(({ tmps:=(a.tmps.setIfInBounds 28 (.int .i64 (x.1:Nat))).setIfInBounds 29 (.agg (B4 (lG dc x.1))),defers:=[] }:Act).put (some 8) (.pointer (some ⟨W.heap.size,0,none⟩))).eval (.tmp 8) = .pointer (some ⟨W.heap.size,0,none⟩):=(actT x W.heap.size).2.2;have Uo:(({ tmps:=(a.tmps.setIfInBounds 28 (.int .i64 (x.1:Nat))).setIfInBounds 29 (.agg (B4 (lG dc x.1))),defers:=[] }:Act).put (some 8) (.pointer (some ⟨W.heap.size,0,none⟩))).eval (.tmp 29) = .agg (B4 (lG dc x.1)):=by
   simp [Act.eval,Act.put,A4,hsz]
  have e2:=run_storeAt_new (P:=Tp) W 84 Hp.cells (B4 (lG dc x.1)) (by rw [hi];simp [D9,hev,vsL,hx.len]) (by simp [hev,vsL,hx.len];rfl) (by
   rw [Array.all_eq_true];intro i h;simp [hev,vsL];rfl)
  have e3 : ∀ ρ : Operand → Value, ρ (.tmp 8) = .pointer (some ⟨W.heap.size, 0, none⟩) → ρ (.tmp 29) = .agg (B4 (lG dc x.1)) → (execOp ρ { dst := none, op := .store 84 (.tmp 8) (.tmp 29), type := 0, pos := "jury.go:198", after := #[{ on := 0, ground := .data }, { on := 0, ground := .phase }], guard := none }).run Tp (W.alloc (.cells Hp.cells 84)) = .ok .skip (W.alloc (.cells (B4 (lG dc x.1)) 84)) := fun ρ h1 h2 => by
   unfold execOp;dsimp only;rw [h1,h2,Sem.run_bind,e2,Result.andThen_ok,Sem.run_pure]
  rw [e3 _ e8 Uo];refine Nc _ _ (wpListIn_nil (hK _ _ ?_ ?_ ?_ ?_))
  ·exact ⟨by simp,fun k o _ hk _=>((iG W _).2.2 k (bM hk)).trans hk⟩
  ·exact ⟨by simp,fun b hb=>(iG W _).2.2 b (B5 (hM.Fs b hb) hI.inv.2.2.size)⟩
  ·exact ⟨C',ea,cl,L,hI.own hM hmb (World.grownBy_alloc W _ none) (fun r e=>by cases e)⟩
  ·refine ⟨W.heap.size,rfl,hI.inv.2.2.size,(iG W _).2.1,fun Q8 Q9 h y hy hyb => ?_⟩
   have Sf:=(hI.has (mb,.map ea cl) (by simp [gB])).1
   rw [(iG W _).2.2 mb (bM Sf),Sf] at h
   cases h;obtain ⟨e,he,_,hv⟩:=hI.ok.e1 y hy;rw [hv] at hyb
   have D4:e.b=W.heap.size:=by
    have:Ent.val e = .slice (some ⟨e.b,0,none⟩) e.l.length e.cap:=rfl;rw [this] at hyb
    exact Option.some.inj hyb
   have:=bM (hI.has e.blk (cJ.2 (.inr ⟨e,he,rfl⟩))).1;simp only [Ent.blk] at this
   omega
 case body =>
  rintro l pre x a' W hl _ ⟨C',ea,cl,L,hI⟩ ⟨b,rfl,Ce,D4,O9⟩ hlt;obtain ⟨t1,t2,t3⟩:=actT x b;refine wpIn_mono (bHc (l:=l) (n:=1) (aRa hd _ (aCf x)) (fun y hy=>by
   obtain ⟨z,_,rfl⟩:=dH.1 hy;exact aRa hd _ (aCf z)) (by rw [A8];have:=hd.len;omega) hM hmb hI t1 rfl (by rw [t2];exact h6) t3 Ce D4 O9) ?_
  rintro e a2 W4 ⟨rfl,hK,hG,h⟩;exact ⟨hK,hG,by simpa [eE] using h⟩
 case done =>
  intro D xs W H3 hSx hI hDm;obtain ⟨C',ea,cl,L,hI⟩:=hI;rw [bHa hSx] at hI
  obtain ⟨C5,Iu,f5,Ir⟩:=bBr hM hmb r1 r2 hI;have hnp:aNd (yE dl sk dc):=fun i o h=>by rcases at4 h with ⟨rfl,e⟩ | ⟨rfl,e⟩ | ⟨rfl,e⟩ | ⟨rfl,e⟩ <;> cases e <;> rfl
  refine ⟨rfl,C5,?_,Iu,hF.trans f5,?_⟩
  ·have s0:dO C5 (yE dl sk dc) W (List.replicate 57 .any) a.tmps:=⟨by simpa using hsz,fun j hj=>by rw [List.getElem_replicate];exact .any _⟩
   refine ⟨hsz.trans rfl,fun j hj => ?_⟩
   have hfr:fr 57 [(6,.ptr 0 0)]=(List.replicate 57 AV.any).set 6 (.ptr 0 0):=rfl;simp only [hfr] at hj ⊢
   rw [wH]
   split
   ·rename_i e;subst e;exact h6.mono (hM.le f5)
   ·exact s0.rep j (by simpa using hj)
  ·obtain ⟨⟨l,e1,e2,e3⟩,hR⟩:=hD.fr hM (fun i to ti sz L h=>by have:=hnp _ _ h;cases this) f5
   obtain ⟨⟨l',Ih,_,Kh⟩,_⟩:=hD;have hll:l=l':=by
    have:=e1.symm.trans Ih;exact (List.map_inj_right (fun x y h=>by simpa [mark] using h)).1 this
   refine ⟨⟨D::l,by rw [e1];rfl,List.nodup_cons.2 ⟨fun hin => ?_,e2⟩,fun D' Ki => ?_⟩,hR⟩
   ·rw [hll] at hin
    have:=(kP.1 (Kh D hin).1).1;omega
   ·rcases gG.1 Ki with rfl | hin
    ·exact ⟨hDm,fL hF.size H3,Ir _ hDm H3⟩
    ·exact e3 D' hin
 case stop =>
  intro D c pre W _ _ h _;exact h.elim
end KV
end Go.Proofs
end
namespace Go.Proofs
namespace KV
open Tryz
section

theorem bXs(dc:Lqq){base:Nat}:FV Tp 89 [.p (fS dc)] base (aLv dc) []:=bXu
theorem lF{dl:Int}{sk dc:Lqq}(h:cF dl sk dc):bS (aB dc):=by
 have hm:∀ x,x∈aB dc↔x∈dc:=fun x=>(dC dc).mem_iff
 refine ⟨kW h.ud,by rw [fB];have:=h.len2;omega,fun x hx=>h.hdc x ((hm x).1 hx),?_,fun x hx=>h.ord x ((hm x).1 hx)⟩
 have hn:(aL (aB dc) 0).Nodup:=((dC dc).map _).nodup_iff.2 h.nd;have hs:=kR dc;unfold aL at hn
 rw [List.Nodup,List.pairwise_map] at hn
 exact (hs.and hn).imp fun ⟨h1,h2⟩=>by
  show _<_;unfold dN;omega
theorem bNi{dl:Int}{sk dc:Lqq}(h0:cF dl sk dc)(h1:bS (aB dc)){base:Nat}:FV Tp 45 [(.p (.agg (dX dl sk dc)))] base (.tup [(.rp [(aA dl),(.sl ((aB sk).length) ((aB sk).flatten.map aA)),(.sl ((aB dc).length) ((aB dc).flatten.map aA)),(.mp (atF (aB dc).reverse)),(.mp (abE (aB dc)))] 0),(pI 0)]) []:=have k1:=fk 1 (bSq dl sk dc h0) rfl;have k2:=fk 6 (bXs (aB dc)) rfl;FV.fi func45 [k1.o,bF,k2.o,.k 1 (gI [0,6,7,20,28,29] [5,4,2,3]) .normal ⟨fr 57 [(6,(.ptr 0 0))],yE dl (aB sk) (aB dc)⟩,.g 1 ⟨[],[0],[2,1],[]⟩] (gt (aC Tp 0 (sub (cd Tryz.f45) [1,1,1,1,0,1,0]) ⟨fr 57 [(6,(.ptr 0 0)),(27,aLv (aB dc))],kK dl (aB sk) (aB dc)⟩ .normal ⟨fr 57 [(6,(.ptr 0 0))],yE dl (aB sk) (aB dc)⟩) (bGz dl (aB sk) (aB dc) h1) (gc k2 (gt (((0:Int) != 0)=false) (by first | decide | simp) (gc k1 gn))))
abbrev aR(dl:Int)(sk dc:Lqq):List PV:=[aA dl,.sl sk.length (sk.flatten.map aA),.sl dc.length (dc.flatten.map aA),.mp (atF dc.reverse),.mp (abE dc)]
theorem jR(dl:Int)(sk dc:Lqq)(h:cF dl sk dc){base:Nat}:FV Tp 45 [.p (.agg (dX dl sk dc))] base (.tup [.rp (aR dl (aB sk) (aB dc)) 0,.p (aA 0)]) []:=bNi h (lF h)
end
section
section
variable {P:Program} {k:Nat} {b:Code} {β:Type}
theorem aF.ex{e:Ex}(S:Nat→β→St)(R:β→St)(Inv:Nat→β→Prop)(he:e ≠ .normal)(n:Nat)
  (hs:∀ (i:Nat) (acc:β),i<n→Inv i acc→∃ Ay,Inv (i+1) Ay∧aC P k b (S i acc) .normal (S (i+1) Ay))
  (hx:∀ acc,Inv n acc→aC P k b (S n acc) e (R acc)) {acc:β} (h0:Inv 0 acc):∃ Ay,Inv n Ay∧aF P k b (S 0 acc) e (R Ay):=by
 have key:∀ (d i:Nat) (acc:β),i+d=n→Inv i acc→∃ Ay,Inv n Ay∧aF P k b (S i acc) e (R Ay):=by
  intro d
  induction d with
  | zero =>
   intro i acc hi h;obtain rfl:i=n:=by omega
   exact ⟨acc,h,.exit (hx acc h) he⟩
  | succ d ih =>
   intro i acc hi h;obtain ⟨Ho,h1,c1⟩:=hs i acc (by omega) h
   obtain ⟨Qb,h2,c2⟩:=ih (i+1) Ho (by omega) h1
   exact ⟨Qb,h2,.step c1 c2⟩
 exact key n 0 acc (by omega) h0
theorem aF.exF{e1 e2:Ex}(S R1:Nat→β→St)(R2:β→St)(Inv:β→Prop)(h1:e1 ≠ .normal)(h2:e2 ≠ .normal)(p:Nat→Bool)(n:Nat)
  (hs:∀ (i:Nat) (acc:β),i<n→Inv acc→p i=false→∃ Ay,Inv Ay∧aC P k b (S i acc) .normal (S (i+1) Ay))
  (hq:∀ (i:Nat) (acc:β),i<n→Inv acc→p i=true→∃ Ay,Inv Ay∧aC P k b (S i acc) e1 (R1 i Ay))
  (hx:∀ acc,Inv acc→aC P k b (S n acc) e2 (R2 acc)) {acc:β} (h0:Inv acc) :
  (∃ i Ay,i<n∧p i=true∧(∀ j,j<i→p j=false)∧Inv Ay∧aF P k b (S 0 acc) e1 (R1 i Ay))∨((∀ j,j<n→p j=false)∧∃ Ay,Inv Ay∧aF P k b (S 0 acc) e2 (R2 Ay)):=by
 have key:∀ (d i:Nat) (acc:β),i+d=n→Inv acc→(∀ j,j<i→p j=false)→(∃ i' Ay,i'<n∧p i'=true∧(∀ j,j<i'→p j=false)∧Inv Ay∧aF P k b (S i acc) e1 (R1 i' Ay))∨((∀ j,j<n→p j=false)∧∃ Ay,Inv Ay∧aF P k b (S i acc) e2 (R2 Ay)):=by
  intro d
  induction d with
  | zero =>
   intro i acc hi h hj;obtain rfl:i=n:=by omega
   exact .inr ⟨hj,acc,h,.exit (hx acc h) h2⟩
  | succ d ih =>
   intro i acc hi h hj;cases hp:p i with
   | true =>
    obtain ⟨Ho,q1,c1⟩:=hq i acc (by omega) h hp
    exact .inl ⟨i,Ho,by omega,hp,hj,q1,.exit c1 h1⟩
   | false =>
    obtain ⟨Ho,q1,c1⟩:=hs i acc (by omega) h hp
    rcases ih (i+1) Ho (by omega) q1 (fun j Dm=>by
     rcases Nat.lt_or_ge j i with h3 | h3
     ·exact hj j h3
     ·obtain rfl:j=i:=by omega
      exact hp) with ⟨i',Ay,r1,r2,r3,r4,r5⟩ | ⟨r1,Ay,r2,r3⟩
    ·exact .inl ⟨i',Ay,r1,r2,r3,r4,.step c1 r5⟩
    ·exact .inr ⟨r1,Ay,r2,.step c1 r3⟩
 exact key n 0 acc (by omega) h0 (fun j hj=>absurd hj (aOi _))
end
def aK(T:Lqb):List (Value × PV):=T.map fun p=>(.int .i64 p.1,blP p.2)
theorem bBn(T:Lqb)(n:Int)(b:Bool):aK (T++[(n,b)])=aK T++[(.int .i64 n,blP b)]:=by simp [aK]
structure bY (dl:Int) (oc:List Int) (dc:Lqq) (T:Lqb):Prop where
 nd:(T.map (·.1)).Nodup
 ok:∀ p∈T,∃ x∈dc,dN x=p.1∧cZ dl oc dc x=p.2
section
variable {dl:Int} {oc:List Int} {dc:Lqq} {T:Lqb}
theorem bY.nil:bY dl oc dc []:=⟨by simp,fun p hp=>by cases hp⟩
theorem eR(h:bS dc){x:List Int}(hx:x∈dc):1≤dN x∧dN x≤9999:=(gY.1 (h.rng x hx)).1
theorem zB(h:bS dc){x y:List Int}(hx:x∈dc)(hy:y∈dc)(e:dN x=dN y):x=y:=by
 obtain ⟨i,hi,rfl⟩:=List.mem_iff_getElem.1 hx;obtain ⟨j,hj,rfl⟩:=List.mem_iff_getElem.1 hy;have hu:=List.pairwise_iff_getElem.1 h.up
 rcases Nat.lt_trichotomy i j with q | q | q
 ·have:=hu i j hi hj q;omega
 ·subst q;rfl
 ·have:=hu j i hj hi q;omega
theorem bY.keys(h:bY dl oc dc T)(hd:bS dc){n:Int}(hn:1≤n∧n≤9999):bV .i64 (aK T) (.int .i64 n):=by
 refine ⟨fun e he => ?_,mL (by omega),?_⟩
 ·obtain ⟨p,hp,rfl⟩:=dH.1 he
  obtain ⟨x,hx,e1,_⟩:=h.ok p hp;have:=eR hd hx;exact mL (by omega)
 ·have:(aK T).map (fun e=>gS e.1)=T.map (·.1):=by
   unfold aK;rw [sE];rfl
  rw [this];exact h.nd
theorem aUe{n:Int}:cV (aK T) (.int .i64 n)=T.any fun p=>p.1 == n:=by
 unfold cV aK;rw [List.any_map]
 congr 1
theorem bGu{n:Int}:eL (aK T) (.int .i64 n)=(T.find? fun p=>p.1 == n).map fun p=>blP p.2:=by
 unfold eL aK
 induction T with
 | nil=>rfl
 | cons p T ih =>
  rw [gT,List.find?_cons,List.find?_cons];have e:(decide (gS ((Value.int IntKind.i64 p.1,blP p.2):Value × PV).1=gS (Value.int IntKind.i64 n)))=(p.1 == n):=by
   show decide (p.1=n)=(p.1 == n);rw [Bool.eq_iff_iff];simp
  rw [e];cases p.1 == n with
  | true=>rfl
  | false=>exact ih
theorem bY.look(h:bY dl oc dc T)(hd:bS dc){x:List Int}(hx:x∈dc)(hh:cV (aK T) (.int .i64 (dN x))=true):eL (aK T) (.int .i64 (dN x))=some (blP (cZ dl oc dc x)):=by
 rw [aUe] at hh
 rw [bGu];cases hf:T.find? fun p=>p.1 == dN x with
 | none =>
  obtain ⟨p,h1,h2⟩:=List.any_eq_true.1 hh;exact absurd h2 (aBb.1 hf p h1)
 | some p =>
  have h1:=uY hf;have h2:p.1=dN x:=by simpa using aOj hf
  obtain ⟨y,hy,e1,e2⟩:=h.ok p h1;rw [zB hd hy hx (e1.trans h2)] at e2
  rw [e2];rfl
theorem bY.again(h:bY dl oc dc T)(hd:bS dc){x:List Int}(hx:x∈dc):nW (aK T) (.int .i64 (dN x)) (blP (cZ dl oc dc x))=aK T:=by
 have:∀ T':Lqb,(∀ p∈T',∃ x∈dc,dN x=p.1∧cZ dl oc dc x=p.2)→nW (aK T') (.int .i64 (dN x)) (blP (cZ dl oc dc x))=aK T':=by
  intro T'
  induction T' with
  | nil=>intro _;rfl
  | cons p T' ih =>
   intro hp;show (if p.1=dN x then ((.int .i64 (dN x),blP (cZ dl oc dc x))::aK T':List (Value × PV)) else (.int .i64 p.1,blP p.2)::nW (aK T') (.int .i64 (dN x)) (blP (cZ dl oc dc x)))=(.int .i64 p.1,blP p.2)::aK T'
   by_cases e:p.1=dN x
   ·rw [if_pos e]
    obtain ⟨y,hy,e1,e2⟩:=hp p (jI ..);rw [zB hd hy hx (e1.trans e)] at e2
    rw [e,e2]
   ·rw [if_neg e,ih fun q hq=>hp q (B7 _ hq)]
 exact this T h.ok
theorem bY.put(h:bY dl oc dc T){x:List Int}(hx:x∈dc)(hh:cV (aK T) (.int .i64 (dN x))=false):bY dl oc dc (T++[(dN x,cZ dl oc dc x)]):=by
 rw [aUe] at hh
 refine ⟨?_,fun p hp => ?_⟩
 ·rw [eE,List.nodup_append]
  refine ⟨h.nd,by simp,fun a ha b hb e => ?_⟩
  simp only [gT,List.map_nil,List.mem_singleton] at hb
  obtain ⟨p,hp,rfl⟩:=dH.1 ha;have:=List.any_eq_false.1 hh p hp;rw [e,hb] at this
  simp at this
 ·rcases eU.1 hp with hp | hp
  ·exact h.ok p hp
  ·rw [List.mem_singleton.1 hp]
   exact ⟨x,hx,rfl,rfl⟩
end
end
section
variable {b6 is r0 Au Iq Gu Gv:Bool}{k c0 c1 c2 c3 c4 c5 x0 x1 x2 x3 x4 x5 z0 z1 z2 z3 z4 z5 c0'4 c0'5 c1'5 c1'6 c2'6 c2'7 c3'7 c3'8 c4'8 c4'9 c5'9 Aa Ab Ac Ad Ae Af c5'10:Int}{T t T7 t' Cw Dt G2 T107 T109:Lqb}{l y0 Sb Ky Sc:Lqq}{i n i' Aw Gp Bn Sd Kz Se base:Nat}{ov:PV}
variable {dl:Int}{sk dc:Lqq}

noncomputable abbrev iB:Code:=sub (cd Tryz.f100) [1,1,1,0,1,0,0]
noncomputable abbrev iZ:Code:=sub (cd Tryz.f99) [1,0,1,0,0]
abbrev qY(dl:Int)(sk dc:Lqq):AV := .rp (aR dl sk dc) 0
abbrev cL(dl:Int)(sk dc:Lqq)(ov:PV)(T:Lqb):Mem:=[some (.box 106 [(qY dl sk dc)]),some (.box 31 [(.p ov)]),some (.box 119 [(.fn 100 [] [(.ptr 4 0),(.ptr 5 0),(.ptr 0 0),(.ptr 2 0)]),(.fn 102 [] [(.ptr 6 0)]),(.fn 103 [] [(.ptr 2 0),(.ptr 1 0)]),(.fn 106 [] [(.ptr 2 0)]),(.fn 104 [] [(.ptr 6 0)])]),some (.mp (aK T) T.length),some (.box 183 [(.mp 3)]),some (.box 115 [(.fn 98 [(qY dl sk dc)] [])]),some (.box 185 [(.fn 99 [] [(.ptr 0 0),(.ptr 2 0)])])]
abbrev wV:AV:=(.agg [(.fn 100 [] [(.ptr 4 0),(.ptr 5 0),(.ptr 0 0),(.ptr 2 0)]),(.fn 102 [] [(.ptr 6 0)]),(.fn 103 [] [(.ptr 2 0),(.ptr 1 0)]),(.fn 106 [] [(.ptr 2 0)]),(.fn 104 [] [(.ptr 6 0)])])
abbrev Eg(dl:Int)(sk dc:Lqq):AO:=.box 106 [.rp (aR dl sk dc) 0]
abbrev E4:AO:=.box 119 [(.fn 100 [] [(.ptr 4 0),(.ptr 5 0),(.ptr 0 0),(.ptr 2 0)]),(.fn 102 [] [(.ptr 6 0)]),(.fn 103 [] [(.ptr 2 0),(.ptr 1 0)]),(.fn 106 [] [(.ptr 2 0)]),(.fn 104 [] [(.ptr 6 0)])]
abbrev Eh(dl:Int)(sk dc:Lqq):AO:=.box 115 [.fn 98 [.rp (aR dl sk dc) 0] []]
abbrev Fy:AO:=.box 185 [(.fn 99 [] [(.ptr 0 0),(.ptr 2 0)])]
abbrev vU(dl:Int)(sk dc:Lqq)(ov:PV)(T:Lqb):Upd:=[(0,Eg dl sk dc),(1,.box 31 [.p ov]),(2,E4),(3,.mp (aK T) T.length),(4,.box 183 [.mp 3]),(5,Eh dl sk dc),(6,Fy)]
abbrev qZ(dl:Int)(sk dc:Lqq)(ov:PV)(x:List Int)(b:Bool)(T T2:Lqb):Prop:=FMM Tp 100 [.p (.agg (x.map aA)),.ptr 4 0,.ptr 5 0,.ptr 0 0,.ptr 2 0] (cL dl sk dc ov T) (pB b) (cL dl sk dc ov T2)
abbrev bVg(g:Nat)(dl:Int)(sk dc:Lqq)(ov:PV)(x z:List Int)(b:Bool)(T T2:Lqb):Prop:=FMM Tp 99 [.p (.agg (x.map aA)),.fn g [] [],.ptr 0 0,.ptr 2 0] (cL dl sk dc ov T) (.tup [.p (.agg (z.map aA)),.p (blP b)]) (cL dl sk dc ov T2)
abbrev aLn(dl:Int)(sk dc:Lqq)(ov:PV)(x z:List Int)(b:Bool)(T T2:Lqb):Prop:=FMM Tp 102 [.p (.agg (x.map aA)),.ptr 6 0] (cL dl sk dc ov T) (.tup [.p (.agg (z.map aA)),.p (blP b)]) (cL dl sk dc ov T2)
abbrev bVh(dl:Int)(sk dc:Lqq)(ov:PV)(x z:List Int)(b:Bool)(T T2:Lqb):Prop:=FMM Tp 104 [.p (.agg (x.map aA)),.ptr 6 0] (cL dl sk dc ov T) (.tup [.p (.agg (z.map aA)),.p (blP b)]) (cL dl sk dc ov T2)
abbrev bMx(dl:Int)(sk dc:Lqq)(ov:PV)(x:List Int)(b:Bool)(T T2:Lqb):Prop:=FMM Tp 103 [.p (.agg (x.map aA)),.ptr 2 0,.ptr 1 0] (cL dl sk dc ov T) (pB b) (cL dl sk dc ov T2)
abbrev yT(dl:Int)(sk dc:Lqq)(ov:PV)(x:List Int)(m:Int)(T T2:Lqb):Prop:=FMM Tp 106 [.p (.agg (x.map aA)),.ptr 2 0] (cL dl sk dc ov T) (pI m) (cL dl sk dc ov T2)
theorem bMy(h0:k=8):FV Tp 101 [(pI k)] base (pB true) []:=FV.fi func101 [bT,bT,bT] (Ar (eP h0) gn)
theorem bMz(h0:k≠8)(Ak:r0=(k == 9)):FV Tp 101 [(pI k)] base (pB r0) []:=by
 subst Ak;exact FV.fi func101 [bF,bF,bF] (Ar (bL h0) gn)
theorem bNa(Ak:r0=(k == 6)):FV Tp 105 [(pI k)] base (pB r0) []:=by
 subst Ak;exact FV.fi func105 [] gn
theorem bVi(h0:k=4):FV Tp 90 [(pI k)] base (pB true) []:=FV.fi func90 [bT,bT,bT] (Ar (eP h0) gn)
theorem bVj(h0:k≠4)(Ak:r0=(k == 7)):FV Tp 90 [(pI k)] base (pB r0) []:=by
 subst Ak;exact FV.fi func90 [bF,bF,bF] (Ar (bL h0) gn)
theorem lY(k:Int){base:Nat}:FV Tp 101 [.p (aA k)] base (pB (cI k)) []:=by
 by_cases h:k=8
 ·rw [show cI k=true by simp [cI,h]];exact bMy h
 ·exact bMz h (by simp [cI,h])
theorem aIg(k:Int){base:Nat}:FV Tp 105 [.p (aA k)] base (pB (k == 6)) []:=bNa rfl
theorem wW(k:Int){base:Nat}:FV Tp 90 [.p (aA k)] base (pB (gF k)) []:=by
 by_cases h:k=4
 ·rw [show gF k=true by simp [gF,h]];exact bVi h
 ·exact bVj h (by simp [gF,h])
theorem bVk(h0:(gF x1)=true)(Ak:r0=(decide (x2 > dl))):FV Tp 98 [(.rp (aR dl sk dc) 0),(.p (dcE x0 x1 x2 x3 x4 x5))] base (pB r0) []:=by
 subst Ak;exact FV.fi func98 ([.c (pB (gF x1)) []]++rT 7++[.x (aA dl),bT,bT]) (Bc h0 (gr (aA dl) (G8 h0 (gc (fk 1 (wW x1) rfl) gn))))
theorem bVl(h0:(gF x1)=false):FV Tp 98 [(.rp (aR dl sk dc) 0),(.p (dcE x0 x1 x2 x3 x4 x5))] base (pB false) []:=FV.fi func98 ([.c (pB (gF x1)) []]++rF 9) (Jn h0 (gc h0 (gc (fk 1 (wW x1) rfl) gn)))
theorem aIh(dl:Int)(sk dc:Lqq)(x0 x1 x2 x3 x4 x5:Int){base:Nat}:FV Tp 98 [qY dl sk dc,.p (.agg [aA x0,aA x1,aA x2,aA x3,aA x4,aA x5])] base (pB (oY dl [x0,x1,x2,x3,x4,x5])) []:=by
 cases h:gF x1 with
 | true=>exact bVk h (by show (gF x1 && decide (dl<x2))=_;rw [h];rfl)
 | false=>rw [show oY dl [x0,x1,x2,x3,x4,x5]=false by show (gF x1 && decide (dl<x2))=_;rw [h];rfl];exact bVl h
abbrev sG(ov:PV)(n:Int)(b:Bool):Prop:=∀ base:Nat,FV Tp 22 [.p ov,.p (aA n)] base (pB b) []
def dD(dl:Int)(sk dc:Lqq)(ov:PV)(i:Nat)(l:Lqq)(n:Nat)(te:List (Value × PV))(tk:Nat)(c0 c1 c2 c3 c4 c5:Int):St:=⟨fr 35 [(1,(.fn 101 [] [])),(3,(.ptr 2 0)),(6,(.ptr 7 0)),(16,(.p (fS l))),(17,(pI (n:Int))),(18,(pI (i:Int)))],[some (Eg dl sk dc),some (.box 31 [(.p ov)]),some E4,some (.mp te tk),some (.box 183 [(.mp 3)]),some (Eh dl sk dc),some Fy,some (.box 84 [(pI c0),(pI c1),(pI c2),(pI c3),(pI c4),(pI c5)])]⟩
section
variable(h0:bV .i64 (abE dc) (.int .i64 x0))(h1:(cV (abE dc) (.int .i64 x0))=true)(h2:eL (abE dc) (.int .i64 x0)=some (fS y0))
include h0 h1 h2
theorem bNb(Bl:aF Tp 7 iZ (dD dl sk dc ov 0 y0 y0.length (aK T) T.length 0 0 0 0 0 0) (.exit 0) (dD dl sk dc ov Gp Ky Kz (aK Dt) Dt.length c0'5 c1'6 c2'7 c3'8 c4'9 c5'10)):FMM Tp 99 [(.p (dcE x0 x1 x2 x3 x4 x5)),(.fn 101 [] []),(.ptr 0 0),(.ptr 2 0)] (cL dl sk dc ov T) (.tup [(.p (dcE 0 0 0 0 0 0)),(pB false)]) (cL dl sk dc ov Dt):=FMM.fi 7 gE func99 [.x (.mp (abE dc)),bT,.x (fS y0),Bl.k 1 (gI be [8])] (gc Bl.code (gc h2 (gc h1 (gc h0 (gr (.mp (abE dc)) gn)))))
theorem bNc(Bl:aF Tp 7 iZ (dD dl sk dc ov 0 y0 y0.length (aK T) T.length 0 0 0 0 0 0) .ret (cC (dD dl sk dc ov Gp Ky Kz (aK Dt) Dt.length c0'5 c1'6 c2'7 c3'8 c4'9 c5'10) [(7,(.kb true))])):FMM Tp 99 [(.p (dcE x0 x1 x2 x3 x4 x5)),(.fn 101 [] []),(.ptr 0 0),(.ptr 2 0)] (cL dl sk dc ov T) (.tup [(.p (dcE c0'5 c1'6 c2'7 c3'8 c4'9 c5'10)),(pB true)]) (cL dl sk dc ov Dt):=FMM.fi 7 gE func99 [.x (.mp (abE dc)),bT,.x (fS y0),Bl.k 1 (gI be [8])] (gc Bl.code (gc h2 (gc h1 (gc h0 (gr (.mp (abE dc)) gn)))))
end
theorem bNd(h0:bV .i64 (abE dc) (.int .i64 x0))(h1:(cV (abE dc) (.int .i64 x0))=false)(Bu:aF Tp 7 iZ (dD dl sk dc ov 0 ([]:Lqq) 0 (aK T) T.length 0 0 0 0 0 0) (.exit 0) (dD dl sk dc ov Aw Sb Sd (aK Cw) Cw.length c0'4 c1'5 c2'6 c3'7 c4'8 c5'9)):FMM Tp 99 [(.p (dcE x0 x1 x2 x3 x4 x5)),(.fn 101 [] []),(.ptr 0 0),(.ptr 2 0)] (cL dl sk dc ov T) (.tup [(.p (dcE 0 0 0 0 0 0)),(pB false)]) (cL dl sk dc ov Cw):=FMM.fi 7 gE func99 [.x (.mp (abE dc)),bF,Bu.k 1 (gN be [8] [(16,99999)])] (gc Bu.code (gc h1 (gc h0 (gr (.mp (abE dc)) gn))))
section
variable(h0:(i:Int)<(n:Int))(h1:l[i]? = some [Aa,Ab,Ac,Ad,Ae,Af])(h2:uni 6 l)
include h0 h1 h2
theorem aQo(h3:(cI Ab)=true)(h4:qZ dl sk dc ov [Aa,Ab,Ac,Ad,Ae,Af] Au t T107)(h5:Au=true)(An:aK t'=(aK T107))(Ao:t'.length=T107.length):aC Tp 7 iZ (dD dl sk dc ov i l n (aK t) t.length c0 c1 c2 c3 c4 c5) .ret (cC (dD dl sk dc ov i l n (aK t') t'.length Aa Ab Ac Ad Ae Af) [(7,(.kb true))]):=by
 have k1:=fk 9 (lY Ab) rfl;have k2:=mq ck 9 h4;rw [An,Ao];exact aC.fi (gI [0,1,2,1,4,2,8,8,19,15] [7]) [bT,.x (dcE Aa Ab Ac Ad Ae Af),k1.o,bT,bT,bT,bT,k2.o,bT,bT] (gc h5 (gc h3 (gc k2 (A3 h3 (gc k1 (gfl h2 h1 (g0 h0)))))))
theorem aQp(h3:(cI Ab)=true)(h4:qZ dl sk dc ov [Aa,Ab,Ac,Ad,Ae,Af] Au t T107)(h5:Au=false)(h6:da i)(Ai:i'=(i+1))(An:aK t'=(aK T107))(Ao:t'.length=T107.length):aC Tp 7 iZ (dD dl sk dc ov i l n (aK t) t.length c0 c1 c2 c3 c4 c5) .normal (dD dl sk dc ov i' l n (aK t') t'.length c0 c1 c2 c3 c4 c5):=by
 subst Ai;have k1:=fk 9 (lY Ab) rfl;have k2:=mq ck 9 h4;rw [An,Ao];exact aC.fi (gI be [7]) [bT,.x (dcE Aa Ab Ac Ad Ae Af),k1.o,bT,bT,bT,bT,k2.o,bT,bF] (gc h6 (gc h5 (gc h3 (gc k2 (A3 h3 (gc k1 (gfl h2 h1 (g0 h0))))))))
theorem aQq(h3:(cI Ab)=false)(h4:da i)(Ai:i'=(i+1)):aC Tp 7 iZ (dD dl sk dc ov i l n (aK t) t.length c0 c1 c2 c3 c4 c5) .normal (dD dl sk dc ov i' l n (aK t) t.length c0 c1 c2 c3 c4 c5):=by
 subst Ai;have k1:=fk 9 (lY Ab) rfl;exact aC.fi (gI be [7]) ([bT,.x (dcE Aa Ab Ac Ad Ae Af),k1.o]++rF 5) (gc h4 (Cn h3 (gc k1 (gfl h2 h1 (g0 h0)))))
end
theorem aQr(h0:(n:Int)≤(i:Int)):aC Tp 7 iZ (dD dl sk dc ov i l n (aK t) t.length c0 c1 c2 c3 c4 c5) (.exit 0) (dD dl sk dc ov i l n (aK t) t.length c0 c1 c2 c3 c4 c5):=aC.fi (gI be [7]) [bF] (gc (bA h0) gn)
def dE(dl:Int)(sk dc:Lqq)(ov:PV)(i:Nat)(l:Lqq)(n:Nat)(te:List (Value × PV))(tk:Nat)(c0 c1 c2 c3 c4 c5:Int):St:=⟨fr 35 [(1,(.fn 105 [] [])),(3,(.ptr 2 0)),(6,(.ptr 7 0)),(16,(.p (fS l))),(17,(pI (n:Int))),(18,(pI (i:Int)))],[some (Eg dl sk dc),some (.box 31 [(.p ov)]),some E4,some (.mp te tk),some (.box 183 [(.mp 3)]),some (Eh dl sk dc),some Fy,some (.box 84 [(pI c0),(pI c1),(pI c2),(pI c3),(pI c4),(pI c5)])]⟩
section
variable(h0:bV .i64 (abE dc) (.int .i64 x0))(h1:(cV (abE dc) (.int .i64 x0))=true)(h2:eL (abE dc) (.int .i64 x0)=some (fS y0))
include h0 h1 h2
theorem bNe(Bl:aF Tp 7 iZ (dE dl sk dc ov 0 y0 y0.length (aK T) T.length 0 0 0 0 0 0) (.exit 0) (dE dl sk dc ov Gp Ky Kz (aK Dt) Dt.length c0'5 c1'6 c2'7 c3'8 c4'9 c5'10)):FMM Tp 99 [(.p (dcE x0 x1 x2 x3 x4 x5)),(.fn 105 [] []),(.ptr 0 0),(.ptr 2 0)] (cL dl sk dc ov T) (.tup [(.p (dcE 0 0 0 0 0 0)),(pB false)]) (cL dl sk dc ov Dt):=FMM.fi 7 gE func99 [.x (.mp (abE dc)),bT,.x (fS y0),Bl.k 1 (gI be [8])] (gc Bl.code (gc h2 (gc h1 (gc h0 (gr (.mp (abE dc)) gn)))))
theorem bNf(Bl:aF Tp 7 iZ (dE dl sk dc ov 0 y0 y0.length (aK T) T.length 0 0 0 0 0 0) .ret (cC (dE dl sk dc ov Gp Ky Kz (aK Dt) Dt.length c0'5 c1'6 c2'7 c3'8 c4'9 c5'10) [(7,(.kb true))])):FMM Tp 99 [(.p (dcE x0 x1 x2 x3 x4 x5)),(.fn 105 [] []),(.ptr 0 0),(.ptr 2 0)] (cL dl sk dc ov T) (.tup [(.p (dcE c0'5 c1'6 c2'7 c3'8 c4'9 c5'10)),(pB true)]) (cL dl sk dc ov Dt):=FMM.fi 7 gE func99 [.x (.mp (abE dc)),bT,.x (fS y0),Bl.k 1 (gI be [8])] (gc Bl.code (gc h2 (gc h1 (gc h0 (gr (.mp (abE dc)) gn)))))
end
theorem bNg(h0:bV .i64 (abE dc) (.int .i64 x0))(h1:(cV (abE dc) (.int .i64 x0))=false)(Bu:aF Tp 7 iZ (dE dl sk dc ov 0 ([]:Lqq) 0 (aK T) T.length 0 0 0 0 0 0) (.exit 0) (dE dl sk dc ov Aw Sb Sd (aK Cw) Cw.length c0'4 c1'5 c2'6 c3'7 c4'8 c5'9)):FMM Tp 99 [(.p (dcE x0 x1 x2 x3 x4 x5)),(.fn 105 [] []),(.ptr 0 0),(.ptr 2 0)] (cL dl sk dc ov T) (.tup [(.p (dcE 0 0 0 0 0 0)),(pB false)]) (cL dl sk dc ov Cw):=FMM.fi 7 gE func99 [.x (.mp (abE dc)),bF,Bu.k 1 (gN be [8] [(16,99999)])] (gc Bu.code (gc h1 (gc h0 (gr (.mp (abE dc)) gn))))
section
variable(h0:(i:Int)<(n:Int))(h1:l[i]? = some [Aa,Ab,Ac,Ad,Ae,Af])(h2:uni 6 l)
include h0 h1 h2
theorem aQs(h3:(Ab == 6)=true)(h4:qZ dl sk dc ov [Aa,Ab,Ac,Ad,Ae,Af] Au t T107)(h5:Au=true)(An:aK t'=(aK T107))(Ao:t'.length=T107.length):aC Tp 7 iZ (dE dl sk dc ov i l n (aK t) t.length c0 c1 c2 c3 c4 c5) .ret (cC (dE dl sk dc ov i l n (aK t') t'.length Aa Ab Ac Ad Ae Af) [(7,(.kb true))]):=by
 have k1:=mq ck 9 h4;rw [An,Ao];exact aC.fi (gI [0,1,2,1,4,2,8,8,19,15] [7]) [bT,.x (dcE Aa Ab Ac Ad Ae Af),.c (pB (Ab == 6)) [],bT,bT,bT,bT,k1.o,bT,bT] (gc h5 (gc h3 (gc k1 (A3 h3 (gc (fk 9 (aIg Ab) rfl) (gfl h2 h1 (g0 h0)))))))
theorem aQt(h3:(Ab == 6)=true)(h4:qZ dl sk dc ov [Aa,Ab,Ac,Ad,Ae,Af] Au t T107)(h5:Au=false)(h6:da i)(Ai:i'=(i+1))(An:aK t'=(aK T107))(Ao:t'.length=T107.length):aC Tp 7 iZ (dE dl sk dc ov i l n (aK t) t.length c0 c1 c2 c3 c4 c5) .normal (dE dl sk dc ov i' l n (aK t') t'.length c0 c1 c2 c3 c4 c5):=by
 subst Ai;have k1:=mq ck 9 h4;rw [An,Ao];exact aC.fi (gI be [7]) [bT,.x (dcE Aa Ab Ac Ad Ae Af),.c (pB (Ab == 6)) [],bT,bT,bT,bT,k1.o,bT,bF] (gc h6 (gc h5 (gc h3 (gc k1 (A3 h3 (gc (fk 9 (aIg Ab) rfl) (gfl h2 h1 (g0 h0))))))))
theorem aQu(h3:(Ab == 6)=false)(h4:da i)(Ai:i'=(i+1)):aC Tp 7 iZ (dE dl sk dc ov i l n (aK t) t.length c0 c1 c2 c3 c4 c5) .normal (dE dl sk dc ov i' l n (aK t) t.length c0 c1 c2 c3 c4 c5):=by
 subst Ai;exact aC.fi (gI be [7]) ([bT,.x (dcE Aa Ab Ac Ad Ae Af),.c (pB (Ab == 6)) []]++rF 5) (gc h4 (Cn h3 (gc (fk 9 (aIg Ab) rfl) (gfl h2 h1 (g0 h0)))))
end
theorem aQv(h0:(n:Int)≤(i:Int)):aC Tp 7 iZ (dE dl sk dc ov i l n (aK t) t.length c0 c1 c2 c3 c4 c5) (.exit 0) (dE dl sk dc ov i l n (aK t) t.length c0 c1 c2 c3 c4 c5):=aC.fi (gI be [7]) [bF] (gc (bA h0) gn)
def cB(dl:Int)(sk dc:Lqq)(ov:PV)(x0 x1 x2 x3 x4 x5:Int)(is:Bool)(i:Nat)(l:Lqq)(n:Nat)(te:List (Value × PV))(tk:Nat):St:=⟨fr 79 [(1,(.ptr 4 0)),(4,(.ptr 2 0)),(5,(.ptr 7 0)),(6,(.kb false)),(9,(pB is)),(32,(.p (fS l))),(33,(pI (n:Int))),(34,(pI (i:Int)))],[some (Eg dl sk dc),some (.box 31 [(.p ov)]),some E4,some (.mp te tk),some (.box 183 [(.mp 3)]),some (Eh dl sk dc),some Fy,some (.box 84 [(pI x0),(pI x1),(pI x2),(pI x3),(pI x4),(pI x5)])]⟩
theorem bVm{y0:Bool}(h0:bV .i64 (aK T) (.int .i64 x0))(h1:(cV (aK T) (.int .i64 x0))=true)(h2:eL (aK T) (.int .i64 x0)=some (blP y0)):FMM Tp 100 [(.p (dcE x0 x1 x2 x3 x4 x5)),(.ptr 4 0),(.ptr 5 0),(.ptr 0 0),(.ptr 2 0)] (cL dl sk dc ov T) (pB y0) (cL dl sk dc ov T):=FMM.fi 7 gE func100 [bT,.x (blP y0)] (gc h2 (gc h1 (gc h0 gn)))
section
variable(h0:bV .i64 (aK T) (.int .i64 x0))(h1:(cV (aK T) (.int .i64 x0))=false)(h2:bV .i64 (abE dc) (.int .i64 x0))(h3:(cV (abE dc) (.int .i64 x0))=true)(h4:eL (abE dc) (.int .i64 x0)=some (fS y0))(F9:aF Tp 7 iB (cB dl sk dc ov x0 x1 x2 x3 x4 x5 (!(oY dl [x0,x1,x2,x3,x4,x5])) 0 y0 y0.length (aK T) T.length) (.exit 0) (cB dl sk dc ov x0 x1 x2 x3 x4 x5 Gv Bn Sc Se (aK G2) G2.length))(h6:bV .i64 (aK G2) (.int .i64 x0))
include h0 h1 h2 h3 h4 F9 h6
theorem bVn(h7:(cV (aK G2) (.int .i64 x0))=true):FMM Tp 100 [(.p (dcE x0 x1 x2 x3 x4 x5)),(.ptr 4 0),(.ptr 5 0),(.ptr 0 0),(.ptr 2 0)] (cL dl sk dc ov T) (pB Gv) [some (Eg dl sk dc),some (.box 31 [(.p ov)]),some E4,some (.mp (nW (aK G2) (.int .i64 x0) (blP Gv)) G2.length),some (.box 183 [(.mp 3)]),some (Eh dl sk dc),some Fy]:=have k1:=fk 8 (aIh dl sk dc x0 x1 x2 x3 x4 x5) rfl;FMM.fi 7 gE func100 [bF,k1.o,.x (.mp (abE dc)),bT,.x (fS y0),F9.k 1 (gI ay [7]),bT] (gc h7 (gc h6 (gc F9.code (gc h4 (gc h3 (gc h2 (gr (.mp (abE dc)) (gc k1 (gc h1 (gc h0 gn))))))))))
theorem bVo(h7:(cV (aK G2) (.int .i64 x0))=false):FMM Tp 100 [(.p (dcE x0 x1 x2 x3 x4 x5)),(.ptr 4 0),(.ptr 5 0),(.ptr 0 0),(.ptr 2 0)] (cL dl sk dc ov T) (pB Gv) [some (Eg dl sk dc),some (.box 31 [(.p ov)]),some E4,some (.mp ((aK G2)++[((.int .i64 x0),(blP Gv))]) (G2.length+1)),some (.box 183 [(.mp 3)]),some (Eh dl sk dc),some Fy]:=have k1:=fk 8 (aIh dl sk dc x0 x1 x2 x3 x4 x5) rfl;FMM.fi 7 gE func100 [bF,k1.o,.x (.mp (abE dc)),bT,.x (fS y0),F9.k 1 (gI ay [7]),bF] (gc h7 (gc h6 (gc F9.code (gc h4 (gc h3 (gc h2 (gr (.mp (abE dc)) (gc k1 (gc h1 (gc h0 gn))))))))))
end
section
variable(h0:bV .i64 (aK T) (.int .i64 x0))(h1:(cV (aK T) (.int .i64 x0))=false)(h2:bV .i64 (abE dc) (.int .i64 x0))(h3:(cV (abE dc) (.int .i64 x0))=false)(He:aF Tp 7 iB (cB dl sk dc ov x0 x1 x2 x3 x4 x5 (!(oY dl [x0,x1,x2,x3,x4,x5])) 0 ([]:Lqq) 0 (aK T) T.length) (.exit 0) (cB dl sk dc ov x0 x1 x2 x3 x4 x5 Gu Gp Ky Kz (aK Dt) Dt.length))(h5:bV .i64 (aK Dt) (.int .i64 x0))
include h0 h1 h2 h3 He h5
theorem bVp(h6:(cV (aK Dt) (.int .i64 x0))=true):FMM Tp 100 [(.p (dcE x0 x1 x2 x3 x4 x5)),(.ptr 4 0),(.ptr 5 0),(.ptr 0 0),(.ptr 2 0)] (cL dl sk dc ov T) (pB Gu) [some (Eg dl sk dc),some (.box 31 [(.p ov)]),some E4,some (.mp (nW (aK Dt) (.int .i64 x0) (blP Gu)) Dt.length),some (.box 183 [(.mp 3)]),some (Eh dl sk dc),some Fy]:=have k1:=fk 8 (aIh dl sk dc x0 x1 x2 x3 x4 x5) rfl;FMM.fi 7 gE func100 [bF,k1.o,.x (.mp (abE dc)),bF,He.k 1 (gN ay [7] [(32,99999)]),bT] (gc h6 (gc h5 (gc He.code (gc h3 (gc h2 (gr (.mp (abE dc)) (gc k1 (gc h1 (gc h0 gn)))))))))
theorem bVq(h6:(cV (aK Dt) (.int .i64 x0))=false):FMM Tp 100 [(.p (dcE x0 x1 x2 x3 x4 x5)),(.ptr 4 0),(.ptr 5 0),(.ptr 0 0),(.ptr 2 0)] (cL dl sk dc ov T) (pB Gu) [some (Eg dl sk dc),some (.box 31 [(.p ov)]),some E4,some (.mp ((aK Dt)++[((.int .i64 x0),(blP Gu))]) (Dt.length+1)),some (.box 183 [(.mp 3)]),some (Eh dl sk dc),some Fy]:=have k1:=fk 8 (aIh dl sk dc x0 x1 x2 x3 x4 x5) rfl;FMM.fi 7 gE func100 [bF,k1.o,.x (.mp (abE dc)),bF,He.k 1 (gN ay [7] [(32,99999)]),bF] (gc h6 (gc h5 (gc He.code (gc h3 (gc h2 (gr (.mp (abE dc)) (gc k1 (gc h1 (gc h0 gn)))))))))
end
section
variable(h0:(i:Int)<(n:Int))(h1:l[i]? = some [Aa,Ab,Ac,Ad,Ae,Af])(h2:uni 6 l)(h3:Ab=5)
include h0 h1 h2 h3
theorem bBd(h4:is=true)(h5:qZ dl sk dc ov [Aa,Ab,Ac,Ad,Ae,Af] Au t T107)(h6:Au=true)(h7:da i)(Ai:i'=(i+1))(An:aK t'=(aK T107))(Ao:t'.length=T107.length):aC Tp 7 iB (cB dl sk dc ov x0 x1 x2 x3 x4 x5 is i l n (aK t) t.length) .normal (cB dl sk dc ov x0 x1 x2 x3 x4 x5 false i' l n (aK t') t'.length):=by
 subst Ai;have k1:=mq ck 9 h5;rw [An,Ao];exact aC.fi (gN ay [7] [(9,0)]) ([bT,.x (dcE Aa Ab Ac Ad Ae Af)]++rT 8++[k1.o]++rT 11) (gc h7 (gc h6 (gc (eP h3) (gc h6 (A3 (eP h3) (A3 h6 (gc k1 (Bc h4 (Jm (eP h3) (gfl h2 h1 (g0 h0)))))))))))
theorem bBe(h4:is=true)(h5:qZ dl sk dc ov [Aa,Ab,Ac,Ad,Ae,Af] Au t T107)(h6:Au=false)(h7:da i)(Ai:i'=(i+1))(An:aK t'=(aK T107))(Ao:t'.length=T107.length):aC Tp 7 iB (cB dl sk dc ov x0 x1 x2 x3 x4 x5 is i l n (aK t) t.length) .normal (cB dl sk dc ov x0 x1 x2 x3 x4 x5 is i' l n (aK t') t'.length):=by
 subst Ai;have k1:=mq ck 9 h5;rw [An,Ao];exact aC.fi (gI ay [7]) ([bT,.x (dcE Aa Ab Ac Ad Ae Af)]++rT 8++[k1.o]++rF 6) (gc h7 (Jm h6 (gc k1 (Bc h4 (Jm (eP h3) (gfl h2 h1 (g0 h0)))))))
theorem bBf(h4:is=false)(h5:da i)(Ai:i'=(i+1)):aC Tp 7 iB (cB dl sk dc ov x0 x1 x2 x3 x4 x5 is i l n (aK t) t.length) .normal (cB dl sk dc ov x0 x1 x2 x3 x4 x5 is i' l n (aK t) t.length):=by
 subst Ai;exact aC.fi (gI ay [7]) ([bT,.x (dcE Aa Ab Ac Ad Ae Af)]++rT 6++[bF,bF]) (gc h5 (Bc h4 (Jm (eP h3) (gfl h2 h1 (g0 h0)))))
end
section
variable(h0:(i:Int)<(n:Int))(h1:l[i]? = some [Aa,Ab,Ac,Ad,Ae,Af])(h2:uni 6 l)(h3:Ab≠5)(h4:Ab=7)(h5:is=true)(h6:(cI x1)=false)(h7:qZ dl sk dc ov [Aa,Ab,Ac,Ad,Ae,Af] Au t T107)
include h0 h1 h2 h3 h4 h5 h6 h7
theorem bBg(h8:Au=true)(h9:bMx dl sk dc ov [Aa,Ab,Ac,Ad,Ae,Af] Iq T107 T109)(B0:Iq=true)(Cg:da i)(Ai:i'=(i+1))(An:aK t'=(aK T109))(Ao:t'.length=T109.length):aC Tp 7 iB (cB dl sk dc ov x0 x1 x2 x3 x4 x5 is i l n (aK t) t.length) .normal (cB dl sk dc ov x0 x1 x2 x3 x4 x5 false i' l n (aK t') t'.length):=by
 subst Ai;have k1:=mq ck 9 h7;have k2:=mq ck 9 h9;rw [An,Ao];exact aC.fi (gN ay [7] [(9,0)]) ([bT,.x (dcE Aa Ab Ac Ad Ae Af),bF,bF,bF,bF,bT,bT,bT,.c (pB (cI x1)) [],bT,bF,bT,bF]++rT 6++[k1.o]++rT 5++[bF,bF,bF,bF,k2.o,bT,bF,bT,bT]) (gc Cg (gc B0 (gc h8 (gc (bL h3) (gc h8 (gc k2 (A3 (bL h3) (A3 h8 (gc (bZ h6) (gc k1 (A3 (bZ h6) (Bc h5 (gc (bL h3) (gc (eP h4) (gc (bL h3) (gc (eP h4) (gc (fk 9 (lY x1) rfl) (Ar (eP h4) (A3 (bL h3) (gfl h2 h1 (g0 h0)))))))))))))))))))))
theorem bBh(h8:Au=true)(h9:bMx dl sk dc ov [Aa,Ab,Ac,Ad,Ae,Af] Iq T107 T109)(B0:Iq=false)(Cg:da i)(Ai:i'=(i+1))(An:aK t'=(aK T109))(Ao:t'.length=T109.length):aC Tp 7 iB (cB dl sk dc ov x0 x1 x2 x3 x4 x5 is i l n (aK t) t.length) .normal (cB dl sk dc ov x0 x1 x2 x3 x4 x5 is i' l n (aK t') t'.length):=by
 subst Ai;have k1:=mq ck 9 h7;have k2:=mq ck 9 h9;rw [An,Ao];exact aC.fi (gI ay [7]) ([bT,.x (dcE Aa Ab Ac Ad Ae Af),bF,bF,bF,bF,bT,bT,bT,.c (pB (cI x1)) [],bT,bF,bT,bF]++rT 6++[k1.o]++rT 5++[bF,bF,bF,bF,k2.o,bT,bF,bT,bF]) (gc Cg (gc B0 (gc h8 (gc (bL h3) (gc h8 (gc k2 (A3 (bL h3) (A3 h8 (gc (bZ h6) (gc k1 (A3 (bZ h6) (Bc h5 (gc (bL h3) (gc (eP h4) (gc (bL h3) (gc (eP h4) (gc (fk 9 (lY x1) rfl) (Ar (eP h4) (A3 (bL h3) (gfl h2 h1 (g0 h0)))))))))))))))))))))
theorem bBi(h8:Au=false)(h9:da i)(Ai:i'=(i+1))(An:aK t'=(aK T107))(Ao:t'.length=T107.length):aC Tp 7 iB (cB dl sk dc ov x0 x1 x2 x3 x4 x5 is i l n (aK t) t.length) .normal (cB dl sk dc ov x0 x1 x2 x3 x4 x5 is i' l n (aK t') t'.length):=by
 subst Ai;have k1:=mq ck 9 h7;rw [An,Ao];exact aC.fi (gI ay [7]) ([bT,.x (dcE Aa Ab Ac Ad Ae Af),bF,bF,bF,bF,bT,bT,bT,.c (pB (cI x1)) [],bT,bF,bT,bF]++rT 6++[k1.o,bT]++rF 6) (gc h9 (Jm h8 (gc (bZ h6) (gc k1 (A3 (bZ h6) (Bc h5 (gc (bL h3) (gc (eP h4) (gc (bL h3) (gc (eP h4) (gc (fk 9 (lY x1) rfl) (Ar (eP h4) (A3 (bL h3) (gfl h2 h1 (g0 h0)))))))))))))))
end
section
variable(h0:(i:Int)<(n:Int))(h1:l[i]? = some [Aa,Ab,Ac,Ad,Ae,Af])(h2:uni 6 l)(h3:Ab≠5)
include h0 h1 h2 h3
theorem bBj(h4:Ab=7)(h5:is=true)(h6:(cI x1)=true)(h7:da i)(Ai:i'=(i+1)):aC Tp 7 iB (cB dl sk dc ov x0 x1 x2 x3 x4 x5 is i l n (aK t) t.length) .normal (cB dl sk dc ov x0 x1 x2 x3 x4 x5 is i' l n (aK t) t.length):=by
 subst Ai;exact aC.fi (gI ay [7]) ([bT,.x (dcE Aa Ab Ac Ad Ae Af),bF,bF,bF,bF,bT,bT,bT,.c (pB (cI x1)) [],bT,bF,bT,bF,bT,bT]++rF 5) (gc h7 (Cn (aV h6) (Bc h5 (gc (bL h3) (gc (eP h4) (gc (bL h3) (gc (eP h4) (gc (fk 9 (lY x1) rfl) (Ar (eP h4) (A3 (bL h3) (gfl h2 h1 (g0 h0))))))))))))
theorem bBk(h4:Ab=7)(h5:is=false)(h6:da i)(Ai:i'=(i+1)):aC Tp 7 iB (cB dl sk dc ov x0 x1 x2 x3 x4 x5 is i l n (aK t) t.length) .normal (cB dl sk dc ov x0 x1 x2 x3 x4 x5 is i' l n (aK t) t.length):=by
 subst Ai;exact aC.fi (gI ay [7]) [bT,.x (dcE Aa Ab Ac Ad Ae Af),bF,bF,bF,bF,bT,bT,bT,.c (pB (cI x1)) [],bT,bF,bT,bF,bF,bF] (gc h6 (Bc h5 (gc (bL h3) (gc (eP h4) (gc (bL h3) (gc (eP h4) (gc (fk 9 (lY x1) rfl) (Ar (eP h4) (A3 (bL h3) (gfl h2 h1 (g0 h0)))))))))))
theorem bBl(h4:Ab≠7)(h5:is=true)(h6:da i)(Ai:i'=(i+1)):aC Tp 7 iB (cB dl sk dc ov x0 x1 x2 x3 x4 x5 is i l n (aK t) t.length) .normal (cB dl sk dc ov x0 x1 x2 x3 x4 x5 is i' l n (aK t) t.length):=by
 subst Ai;exact aC.fi (gI ay [7]) ([bT,.x (dcE Aa Ab Ac Ad Ae Af)]++rF 11++[bT,bT]) (gc h6 (Bc h5 (gc (bL h3) (gc (bL h4) (gc (bL h3) (A3 (bL h4) (A3 (bL h3) (gfl h2 h1 (g0 h0)))))))))
theorem bBm(h4:Ab≠7)(h5:is=false)(h6:da i)(Ai:i'=(i+1)):aC Tp 7 iB (cB dl sk dc ov x0 x1 x2 x3 x4 x5 is i l n (aK t) t.length) .normal (cB dl sk dc ov x0 x1 x2 x3 x4 x5 is i' l n (aK t) t.length):=by
 subst Ai;exact aC.fi (gI ay [7]) ([bT,.x (dcE Aa Ab Ac Ad Ae Af)]++rF 13) (gc h6 (Bc h5 (gc (bL h3) (gc (bL h4) (gc (bL h3) (A3 (bL h4) (A3 (bL h3) (gfl h2 h1 (g0 h0)))))))))
end
theorem aQw(h0:(n:Int)≤(i:Int)):aC Tp 7 iB (cB dl sk dc ov x0 x1 x2 x3 x4 x5 is i l n (aK t) t.length) (.exit 0) (cB dl sk dc ov x0 x1 x2 x3 x4 x5 is i l n (aK t) t.length):=aC.fi (gI ay [7]) [bF] (gc (bA h0) gn)
theorem bGs(h0:bVg 101 dl sk dc ov [x0,x1,x2,x3,x4,x5] [z0,z1,z2,z3,z4,z5] b6 T T7):FMM Tp 102 [(.p (dcE x0 x1 x2 x3 x4 x5)),(.ptr 6 0)] (cL dl sk dc ov T) (.tup [(.p (dcE z0 z1 z2 z3 z4 z5)),(pB b6)]) (cL dl sk dc ov T7):=have k1:=mq ck 9 h0;FMM.fi 7 gE func102 [k1.o] (gc k1 gn)
theorem bGt(h0:bVg 105 dl sk dc ov [x0,x1,x2,x3,x4,x5] [z0,z1,z2,z3,z4,z5] b6 T T7):FMM Tp 104 [(.p (dcE x0 x1 x2 x3 x4 x5)),(.ptr 6 0)] (cL dl sk dc ov T) (.tup [(.p (dcE z0 z1 z2 z3 z4 z5)),(pB b6)]) (cL dl sk dc ov T7):=have k1:=mq ck 9 h0;FMM.fi 7 gE func104 [k1.o] (gc k1 gn)
section
variable(h0:aLn dl sk dc ov [x0,x1,x2,x3,x4,x5] [z0,z1,z2,z3,z4,z5] b6 T T7)
include h0
theorem bVr(h1:b6=true)(Ak:r0=(z1 == 8)):FMM Tp 103 [(.p (dcE x0 x1 x2 x3 x4 x5)),(.ptr 2 0),(.ptr 1 0)] (cL dl sk dc ov T) (pB r0) (cL dl sk dc ov T7):=by
 subst Ak;have k1:=mq ck 8 h0;exact FMM.fi 7 gE func103 [k1.o,bT] (gc h1 (gc k1 gn))
theorem bVs{b8:Bool}(h1:b6=false)(h2:sG ov x0 b8):FMM Tp 103 [(.p (dcE x0 x1 x2 x3 x4 x5)),(.ptr 2 0),(.ptr 1 0)] (cL dl sk dc ov T) (pB b8) (cL dl sk dc ov T7):=have k1:=mq ck 8 h0;FMM.fi 7 gE func103 [k1.o,bF,.c (pB b8) []] (gc (fk 9 (h2 _) rfl) (gc h1 (gc k1 gn)))
end
section
variable(h0:bVh dl sk dc ov [x0,x1,x2,x3,x4,x5] [z0,z1,z2,z3,z4,z5] b6 T T7)
include h0
theorem bVt{m8:Int}{T9:Lqb}(h1:b6=true)(h2:yT dl sk dc ov [z0,z1,z2,z3,z4,z5] m8 T7 T9):FMM Tp 106 [(.p (dcE x0 x1 x2 x3 x4 x5)),(.ptr 2 0)] (cL dl sk dc ov T) (pI m8) (cL dl sk dc ov T9):=have k1:=mq ck 8 h0;have k2:=mq ck 9 h2;FMM.fi 7 gE func106 [k1.o,bT,k2.o] (gc k2 (gc h1 (gc k1 gn)))
theorem bVu(h1:b6=false):FMM Tp 106 [(.p (dcE x0 x1 x2 x3 x4 x5)),(.ptr 2 0)] (cL dl sk dc ov T) (pI x4) (cL dl sk dc ov T7):=have k1:=mq ck 8 h0;FMM.fi 7 gE func106 [k1.o,bF] (gc h1 (gc k1 gn))
end
theorem aIi:FMM Tp 54 [(.rp (aR dl sk dc) 0),(.p dY)] [] wV [some (Eg dl sk dc),some (.box 31 [(.p dY)]),some E4,some (.mp [] 0),some (.box 183 [(.mp 3)]),some (Eh dl sk dc),some Fy]:=FMM.fi 0 ⟨[],[0,1,3,4,5,6,7],[],[]⟩ func54 [] gn
theorem oP{on:Nat}{ol:List PV}:FMM Tp 54 [(.rp (aR dl sk dc) 0),(.p (.sl on ol))] [] wV [some (Eg dl sk dc),some (.box 31 [(.p (.sl on ol))]),some E4,some (.mp [] 0),some (.box 183 [(.mp 3)]),some (Eh dl sk dc),some Fy]:=FMM.fi 0 ⟨[],[0,1,3,4,5,6,7],[],[]⟩ func54 [] gn
end
end KV
end Go.Proofs
