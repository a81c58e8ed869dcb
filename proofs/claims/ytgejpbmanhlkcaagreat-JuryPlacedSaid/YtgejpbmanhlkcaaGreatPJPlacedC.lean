/- Parts of the proof of JPlaced: laws of walks, contracts of functions, plain models. No condition. -/
import Derived.Shelf.SlSortCmp.WholeK
import Derived.Shelf.SlicesG.Cmp
import Derived.Ground.SlsfProg
import Derived.Ground.SlgcProg
import Derived.Ground.NamesProg
import Derived.Test.YtgejpbmanhlkcaaGreatProg
import Derived.Shelf.SlSortCmp.NoneTotal
import Derived.Lib.OwnBridge
import Derived.Shelf.Slices.Clone
import Derived.Maps.Keyed
import Derived.Maps.AppendAt
import Derived.OrdersHeld
import Derived.Great.BuildSlice
import Derived.Lib.Small
import Derived.Below
import Derived.RangeFuncNested
import Derived.RangeFuncLeaves
import Derived.Shelf.Abstract
import Derived.OwnWalkIn
import Derived.TacticsInMore
import Derived.LoopNIn
import Derived.LoopIn
import Derived.OrdersIn
import Derived.Deep.WholeRow
import Derived.Test.YtgejpbmanhlkcaaGreatPJPlacedB
set_option linter.unusedVariables false
set_option linter.unusedSimpArgs false
set_option maxRecDepth 100000
namespace Go.Proofs
namespace KV
section
variable {r0:Bool}{v dl x0 x1 x2 x3 x4 x5 x100 y100 y101 y102 y103 y104 y105:Int}{l dc sk:Lqq}{i i' i'0 base:Nat}
variable {dl:Int}{sk dc:Lqq}

noncomputable abbrev kM:Code:=sub (cd Tryz.f77) [1,0,1,0,0]
noncomputable abbrev aHq:Code:=sub (cd Tryz.f126) [1,0,1,0,0]
noncomputable abbrev aHr:Code:=sub (cd Tryz.f190) [1,0,1,0,0]
def iR(l:List Int)(v:Int)(i:Nat):St:=⟨fr 19 [(0,(.p (aF l))),(1,(pI v)),(7,(pI (l.length:Int))),(8,(pI (i:Int)))],[]⟩
theorem bJx{l:List Int}(hl0:aH Tp 0 aHq (iR l v 0) (.exit 0) (iR l v i'0)):FV Tp 126 [(.p (aF l)),(pI v)] base (pI (-1:Int)) []:=by
 exact FV.fi Tryz.func126 [hl0.k 6 ⟨(rng [(2,5),(9,10)]),[],[],[]⟩] (gc hl0.code gn)
theorem bJy{l:List Int}(hl0:aH Tp 0 aHq (iR l v 0) .ret (dI (iR l v i'0) [(4,(pI (i'0:Int)))])):FV Tp 126 [(.p (aF l)),(pI v)] base (pI (i'0:Int)) []:=by
 exact FV.fi Tryz.func126 [hl0.k 6 ⟨(rng [(2,5),(9,10)]),[],[],[]⟩] (gc hl0.code gn)
theorem aHs{l:List Int}(h0:(i:Int)<(l.length:Int))(h1:l[i]? = some x100)(h2:v=x100):aC Tp 0 aHq (iR l v i) .ret (dI (iR l v i) [(4,(pI (i:Int)))]):=by
 exact aC.fi ⟨(rng [(2,2),(5,2),(9,10)]),[],[],[]⟩ [bT,.x (aB x100),bT] (gc (dX h2) (gc (atm aB h1) (gc (ixn aB h1) (gc (aV h0) gn))))
theorem aHt{l:List Int}(h0:(i:Int)<(l.length:Int))(h1:l[i]? = some x100)(h2:v≠x100)(h3:inR (((i+1):Nat):Int))(ei':i'=(i+1)):aC Tp 0 aHq (iR l v i) .normal (iR l v i'):=by
 subst ei';exact aC.fi ⟨(rng [(2,5),(9,10)]),[],[],[]⟩ [bT,.x (aB x100),bF] (gc h3 (gc (bJ h2) (gc (atm aB h1) (gc (ixn aB h1) (gc (aV h0) gn)))))
theorem aHu{l:List Int}(h0:(l.length:Int)≤(i:Int)):aC Tp 0 aHq (iR l v i) (.exit 0) (iR l v i):=by
 exact aC.fi ⟨(rng [(2,5),(9,10)]),[],[],[]⟩ [bF] (gc (bA h0) gn)
theorem aEd(l:List Int)(v:Int)(hl:l.length≤1000){base:Nat}:FV Tp 126 [.p (aF l),.p (aB v)] base (pI (bK (fun x=>decide (v=x)) l)) []:=by
 rcases aH.find (P:=Tp) (k:=0) (b:=aHq) (fun i=>iR l v i) (fun i _=>dI (iR l v i) [(4,.p (aB (i:Int)))]) (iR l v l.length) .ret (.exit 0) (by simp) (by simp) (fun x=>decide (v=x)) l
  (fun i x hx hp=>aHt (by have:=bC hx;omega) hx (by simpa using hp) (aO (by have:=bC hx;omega)) rfl)
  (fun i x hx hp=>aHs (by have:=bC hx;omega) hx (by simpa using hp))
  (aHu (l:=l) (i:=l.length) (by omega)) with ⟨i,x,h1,h2,h3,h4⟩ | ⟨h1,h2,h3⟩
 ·rw [iA h2];exact bJy h4
 ·rw [iB h1];exact bJx h3
theorem bVx{l:List Int}(h0:l.length≤1000)(er0:r0=(decide ((bK (fun x=>decide (v=x)) l) ≥ (0:Int)))):FV Tp 52 [(.p (aF l)),(pI v)] base (pB r0) []:=by
 subst er0;have k1:=fk 0 (aEd l v h0) rfl;exact FV.fi Tryz.func52 [k1.o] (gc k1 gn)
theorem wS(l:List Int)(v:Int):decide (bK (fun x=>decide (v=x)) l ≥ 0)=l.contains v:=by
 rw [pD]
 induction l with
 | nil=>rfl
 | cons a l ih=>rw [List.any_cons,ih,List.contains_cons];rfl
theorem oG(l:List Int)(v:Int)(hl:l.length≤1000){base:Nat}:FV Tp 52 [.p (aF l),.p (aB v)] base (pB (l.contains v)) []:=bVx hl (wS l v).symm
theorem bVy(h0:(decide (x1≤4))=true)(er0:r0=(x5 == (0:Int))):FV Tp 113 [(.p (.agg [(aB x0),(aB x1),(aB x2),(aB x3),(aB x4),(aB x5)]))] base (pB r0) []:=by
 subst er0;have k1:=fk 1 (eL x1) rfl;exact FV.fi Tryz.func113 [k1.o,bT] (gc h0 (gc k1 gn))
theorem bVz(h0:(decide (x1≤4))=false)(h1:inR (x0-1))(er0:r0=(within x5 (1:Int) (x0-1))):FV Tp 113 [(.p (.agg [(aB x0),(aB x1),(aB x2),(aB x3),(aB x4),(aB x5)]))] base (pB r0) []:=by
 subst er0;have k1:=fk 1 (eL x1) rfl;have k2:=fk 1 (bW x5 (1:Int) (x0-1)) rfl;exact FV.fi Tryz.func113 [k1.o,bF,k2.o] (gc k2 (gc h1 (gc h0 (gc k1 gn))))
def orB(x:List Int):Bool:=if x.getD 1 0≤4 then x.getD 5 0 == 0 else within (x.getD 5 0) 1 (x.getD 0 0-1)
theorem bWa(a b c d e f:Int)(h:inR (a-1)){base:Nat}:FV Tp 113 [.p (dcE a b c d e f)] base (pB (orB [a,b,c,d,e,f])) []:=by
 by_cases hb:b≤4
 ·exact bVy (by simpa using hb) (show (if b≤4 then f == 0 else within f 1 (a-1))=_ by rw [if_pos hb])
 ·exact bVz (by simpa using hb) h (show (if b≤4 then f == 0 else within f 1 (a-1))=_ by rw [if_neg hb])
theorem bWb(h0:(decide (x1≤4))=true)(h1:uni 2 sk∧sk.length≤1000)(h2:(aP sk 0).length≤1000)(er0:r0=((aP sk 0).contains x3)):FV Tp 111 [(.p (.agg [(aB x0),(aB x1),(aB x2),(aB x3),(aB x4),(aB x5)])),(.rp [(aB dl),(fS sk),(fS dc)] 0)] base (pB r0) []:=by
 subst er0;have k1:=fk 1 (eL x1) rfl;have k2:=fk 1 (oJ dl sk dc h1) rfl;exact FV.fi Tryz.func111 [k1.o,bT,.x (.agg [(aB dl),(fS sk),(fS dc)]),k2.o,.c (pB ((aP sk 0).contains x3)) []] (gt (FC Tp 52 [(.own 1),(pI x3)] [(1,(.row 3 ((aP sk 0).length) ((aP sk 0).map aB)))] 9 (pB ((aP sk 0).contains x3)) []) (fv (oG (aP sk 0) x3 h2)) (gc k2 (gr (.agg [(aB dl),(fS sk),(fS dc)]) (gt (0+3≤[(aB dl),(fS sk),(fS dc)].length) (by first | decide | simp) (gc h0 (gc k1 gn))))))
theorem bWc(h0:(decide (x1≤4))=false)(er0:r0=(x3 == (0:Int))):FV Tp 111 [(.p (.agg [(aB x0),(aB x1),(aB x2),(aB x3),(aB x4),(aB x5)])),(.rp [(aB dl),(fS sk),(fS dc)] 0)] base (pB r0) []:=by
 subst er0;have k1:=fk 1 (eL x1) rfl;exact FV.fi Tryz.func111 [k1.o,bF] (gc h0 (gc k1 gn))
def inB(sk:Lqq)(x:List Int):Bool:=if x.getD 1 0≤4 then (aP sk 0).contains (x.getD 3 0) else x.getD 3 0 == 0
abbrev cR(dl:Int)(sk dc:Lqq):List PV:=[aB dl,.sl sk.length (sk.flatten.map aB),.sl dc.length (dc.flatten.map aB)]
theorem bWd(a b c d e f dl:Int)(sk dc:Lqq)(h:uni 2 sk∧sk.length≤1000){base:Nat}:FV Tp 111 [.p (dcE a b c d e f),.rp (cR dl sk dc) 0] base (pB (inB sk [a,b,c,d,e,f])) []:=by
 by_cases hb:b≤4
 ·exact bWb (by simpa using hb) h (by simpa [aP] using h.2) (show (if b≤4 then (aP sk 0).contains d else d == 0)=_ by rw [if_pos hb])
 ·exact bWc (by simpa using hb) (show (if b≤4 then (aP sk 0).contains d else d == 0)=_ by rw [if_neg hb])
theorem bPb(er0:r0=(!(skB [x0,x1]))):FMM Tp 164 [(.p (.agg [(aB x0),(aB x1)])),(.ptr 0 0)] [some (.box 153 [(.fn 105 [] [])])] (pB r0) [some (.box 153 [(.fn 105 [] [])])]:=by
 subst er0;have k1:=fk 2 (bWv x0 x1) rfl;exact FMM.fi 1 ⟨[],[],[],[]⟩ Tryz.func164 [k1.o] (gc k1 gn)
theorem aWk(x0:Int)(x1:Int):FMM Tp 164 [(.p (.agg [(aB x0),(aB x1)])),.ptr 0 0] [some (.box 153 [(.fn 105 [] [])])] (pB (!(skB [x0,x1]))) [some (.box 153 [(.fn 105 [] [])])]:=bPb rfl
def iH(l:Lqq)(i:Nat):St:=⟨fr 19 [(0,(.p (fS l))),(1,(.fn 164 [] [(.ptr 0 0)])),(7,(pI (l.length:Int))),(8,(pI (i:Int)))],[some (.box 153 [(.fn 105 [] [])])]⟩
theorem bPc(hl0:aH Tp 1 aHr (iH l 0) (.exit 0) (iH l i'0)):FMM Tp 190 [(.p (fS l)),(.fn 164 [] [(.ptr 0 0)])] [some (.box 153 [(.fn 105 [] [])])] (pI (-1:Int)) [some (.box 153 [(.fn 105 [] [])])]:=by
 exact FMM.fi 1 ⟨[],[],[],[]⟩ Tryz.func190 [hl0.k 6 ⟨(rng [(2,5),(9,10)]),[],[],[]⟩] (gc hl0.code gn)
theorem bPd(hl0:aH Tp 1 aHr (iH l 0) .ret (dI (iH l i'0) [(4,(pI (i'0:Int)))])):FMM Tp 190 [(.p (fS l)),(.fn 164 [] [(.ptr 0 0)])] [some (.box 153 [(.fn 105 [] [])])] (pI (i'0:Int)) [some (.box 153 [(.fn 105 [] [])])]:=by
 exact FMM.fi 1 ⟨[],[],[],[]⟩ Tryz.func190 [hl0.k 6 ⟨(rng [(2,5),(9,10)]),[],[],[]⟩] (gc hl0.code gn)
theorem aSy(h0:(i:Int)<(l.length:Int))(h1:l[i]? = some [y100,y101])(h2:uni 2 l)(h3:(skB [y100,y101])=false):aC Tp 1 aHr (iH l i) .ret (dI (iH l i) [(4,(pI (i:Int)))]):=by
 have k1:=mq [0] 1 (aWk y100 y101);exact aC.fi ⟨(rng [(2,2),(5,2),(9,10)]),[],[],[]⟩ [bT,.x (.agg [(aB y100),(aB y101)]),k1.o,bT] (gc (bI h3) (gc k1 (gc (aT (i:=i) h2 h1) (gc (bH (i:=i) h2 h1) (gc (bR (k:=2) (i:=(i:Int)) (by decide) h2 (kQ1 _) h1) (gc (aV h0) gn))))))
theorem aSz(h0:(i:Int)<(l.length:Int))(h1:l[i]? = some [y100,y101])(h2:uni 2 l)(h3:(skB [y100,y101])=true)(h4:inR (((i+1):Nat):Int))(ei':i'=(i+1)):aC Tp 1 aHr (iH l i) .normal (iH l i'):=by
 subst ei';have k1:=mq [0] 1 (aWk y100 y101);exact aC.fi ⟨(rng [(2,5),(9,10)]),[],[],[]⟩ [bT,.x (.agg [(aB y100),(aB y101)]),k1.o,bF] (gc h4 (gc (aI h3) (gc k1 (gc (aT (i:=i) h2 h1) (gc (bH (i:=i) h2 h1) (gc (bR (k:=2) (i:=(i:Int)) (by decide) h2 (kQ1 _) h1) (gc (aV h0) gn)))))))
theorem aTa(h0:(l.length:Int)≤(i:Int)):aC Tp 1 aHr (iH l i) (.exit 0) (iH l i):=by
 exact aC.fi ⟨(rng [(2,5),(9,10)]),[],[],[]⟩ [bF] (gc (bA h0) gn)
theorem bPe(l:Lqq)(hl:l.length≤1000)(hu:uni 2 l):FMM Tp 190 [.p (fS l),(.fn 164 [] [(.ptr 0 0)])] [some (.box 153 [(.fn 105 [] [])])] (pI (bK (fun x => !(skB x)) l)) [some (.box 153 [(.fn 105 [] [])])]:=by
 rcases aH.find (P:=Tp) (k:=1) (b:=aHr) (fun i=>iH l i) (fun i _=>dI (iH l i) [(4,.p (aB (i:Int)))]) (iH l l.length) .ret (.exit 0) (by simp) (by simp) (fun x => !(skB x)) l
  (fun i x hx hp=>by obtain ⟨a,b,rfl⟩:=len2 (hu _ (kQ5 hx));exact aSz (by have:=bC hx;omega) hx hu (by simpa using hp) (aO (by have:=bC hx;omega)) rfl)
  (fun i x hx hp=>by obtain ⟨a,b,rfl⟩:=len2 (hu _ (kQ5 hx));exact aSy (by have:=bC hx;omega) hx hu (by simpa using hp))
  (aTa (l:=l) (i:=l.length) (by omega)) with ⟨i,x,h1,h2,h3,h4⟩ | ⟨h1,h2,h3⟩
 ·rw [iA h2];exact bPd h4
 ·rw [iB h1];exact bPc h3
theorem bPf(h0:l.length≤1000)(h1:uni 2 l)(er0:r0=(decide ((bK (fun x => !(skB x)) l) ≥ (0:Int)))):FMM Tp 163 [(.p (fS l)),(.fn 164 [] [(.ptr 0 0)])] [some (.box 153 [(.fn 105 [] [])])] (pB r0) [some (.box 153 [(.fn 105 [] [])])]:=by
 subst er0;have k1:=mq [0] 1 (bPe l h0 h1);exact FMM.fi 1 ⟨[],[],[],[]⟩ Tryz.func163 [k1.o] (gc k1 gn)
theorem bPg(l:Lqq)(hl:l.length≤1000)(hu:uni 2 l):FMM Tp 163 [.p (fS l),(.fn 164 [] [(.ptr 0 0)])] [some (.box 153 [(.fn 105 [] [])])] (pB (l.any (fun x => !(skB x)))) [some (.box 153 [(.fn 105 [] [])])]:=bPf hl hu (pD _ _).symm
theorem bWe(h0:l.length≤1000)(h1:uni 2 l)(er0:r0=(!(l.any (fun x => !(skB x))))):FV Tp 104 [(.p (fS l)),(.fn 105 [] [])] base (pB r0) []:=by
 subst er0;have k1:=mq [0] 1 (bPg l h0 h1);exact FV.fi Tryz.func104 [k1.o] (gc k1 gn)
theorem vH(l:Lqq)(hl:l.length≤1000)(hu:uni 2 l){base:Nat}:FV Tp 104 [.p (fS l),(.fn 105 [] [])] base (pB (l.all (skB))) []:=bWe hl hu (by rw [List.all_eq_not_any_not])
theorem bPh(er0:r0=(!(dcB [x0,x1,x2,x3,x4,x5]))):FMM Tp 166 [(.p (.agg [(aB x0),(aB x1),(aB x2),(aB x3),(aB x4),(aB x5)])),(.ptr 0 0)] [some (.box 124 [(.fn 107 [] [])])] (pB r0) [some (.box 124 [(.fn 107 [] [])])]:=by
 subst er0;have k1:=fk 2 (bXg x0 x1 x2 x3 x4 x5) rfl;exact FMM.fi 1 ⟨[],[],[],[]⟩ Tryz.func166 [k1.o] (gc k1 gn)
theorem aWl(x0:Int)(x1:Int)(x2:Int)(x3:Int)(x4:Int)(x5:Int):FMM Tp 166 [(.p (.agg [(aB x0),(aB x1),(aB x2),(aB x3),(aB x4),(aB x5)])),.ptr 0 0] [some (.box 124 [(.fn 107 [] [])])] (pB (!(dcB [x0,x1,x2,x3,x4,x5]))) [some (.box 124 [(.fn 107 [] [])])]:=bPh rfl
def iI(l:Lqq)(i:Nat):St:=⟨fr 19 [(0,(.p (fS l))),(1,(.fn 166 [] [(.ptr 0 0)])),(7,(pI (l.length:Int))),(8,(pI (i:Int)))],[some (.box 124 [(.fn 107 [] [])])]⟩
theorem bPi(hl0:aH Tp 1 kM (iI l 0) (.exit 0) (iI l i'0)):FMM Tp 77 [(.p (fS l)),(.fn 166 [] [(.ptr 0 0)])] [some (.box 124 [(.fn 107 [] [])])] (pI (-1:Int)) [some (.box 124 [(.fn 107 [] [])])]:=by
 exact FMM.fi 1 ⟨[],[],[],[]⟩ Tryz.func77 [hl0.k 6 ⟨(rng [(2,5),(9,10)]),[],[],[]⟩] (gc hl0.code gn)
theorem bPj(hl0:aH Tp 1 kM (iI l 0) .ret (dI (iI l i'0) [(4,(pI (i'0:Int)))])):FMM Tp 77 [(.p (fS l)),(.fn 166 [] [(.ptr 0 0)])] [some (.box 124 [(.fn 107 [] [])])] (pI (i'0:Int)) [some (.box 124 [(.fn 107 [] [])])]:=by
 exact FMM.fi 1 ⟨[],[],[],[]⟩ Tryz.func77 [hl0.k 6 ⟨(rng [(2,5),(9,10)]),[],[],[]⟩] (gc hl0.code gn)
theorem aTb(h0:(i:Int)<(l.length:Int))(h1:l[i]? = some [y100,y101,y102,y103,y104,y105])(h2:uni 6 l)(h3:(dcB [y100,y101,y102,y103,y104,y105])=false):aC Tp 1 kM (iI l i) .ret (dI (iI l i) [(4,(pI (i:Int)))]):=by
 have k1:=mq [0] 1 (aWl y100 y101 y102 y103 y104 y105);exact aC.fi ⟨(rng [(2,2),(5,2),(9,10)]),[],[],[]⟩ [bT,.x (.agg [(aB y100),(aB y101),(aB y102),(aB y103),(aB y104),(aB y105)]),k1.o,bT] (gc (bI h3) (gc k1 (gc (aT (i:=i) h2 h1) (gc (bH (i:=i) h2 h1) (gc (bR (k:=6) (i:=(i:Int)) (by decide) h2 (kQ1 _) h1) (gc (aV h0) gn))))))
theorem aTc(h0:(i:Int)<(l.length:Int))(h1:l[i]? = some [y100,y101,y102,y103,y104,y105])(h2:uni 6 l)(h3:(dcB [y100,y101,y102,y103,y104,y105])=true)(h4:inR (((i+1):Nat):Int))(ei':i'=(i+1)):aC Tp 1 kM (iI l i) .normal (iI l i'):=by
 subst ei';have k1:=mq [0] 1 (aWl y100 y101 y102 y103 y104 y105);exact aC.fi ⟨(rng [(2,5),(9,10)]),[],[],[]⟩ [bT,.x (.agg [(aB y100),(aB y101),(aB y102),(aB y103),(aB y104),(aB y105)]),k1.o,bF] (gc h4 (gc (aI h3) (gc k1 (gc (aT (i:=i) h2 h1) (gc (bH (i:=i) h2 h1) (gc (bR (k:=6) (i:=(i:Int)) (by decide) h2 (kQ1 _) h1) (gc (aV h0) gn)))))))
theorem aTd(h0:(l.length:Int)≤(i:Int)):aC Tp 1 kM (iI l i) (.exit 0) (iI l i):=by
 exact aC.fi ⟨(rng [(2,5),(9,10)]),[],[],[]⟩ [bF] (gc (bA h0) gn)
theorem bPk(l:Lqq)(hl:l.length≤1000)(hu:uni 6 l):FMM Tp 77 [.p (fS l),(.fn 166 [] [(.ptr 0 0)])] [some (.box 124 [(.fn 107 [] [])])] (pI (bK (fun x => !(dcB x)) l)) [some (.box 124 [(.fn 107 [] [])])]:=by
 rcases aH.find (P:=Tp) (k:=1) (b:=kM) (fun i=>iI l i) (fun i _=>dI (iI l i) [(4,.p (aB (i:Int)))]) (iI l l.length) .ret (.exit 0) (by simp) (by simp) (fun x => !(dcB x)) l
  (fun i x hx hp=>by obtain ⟨a,b,c,d,e,f,rfl⟩:=len6 (hu _ (kQ5 hx));exact aTc (by have:=bC hx;omega) hx hu (by simpa using hp) (aO (by have:=bC hx;omega)) rfl)
  (fun i x hx hp=>by obtain ⟨a,b,c,d,e,f,rfl⟩:=len6 (hu _ (kQ5 hx));exact aTb (by have:=bC hx;omega) hx hu (by simpa using hp))
  (aTd (l:=l) (i:=l.length) (by omega)) with ⟨i,x,h1,h2,h3,h4⟩ | ⟨h1,h2,h3⟩
 ·rw [iA h2];exact bPj h4
 ·rw [iB h1];exact bPi h3
theorem bPl(h0:l.length≤1000)(h1:uni 6 l)(er0:r0=(decide ((bK (fun x => !(dcB x)) l) ≥ (0:Int)))):FMM Tp 165 [(.p (fS l)),(.fn 166 [] [(.ptr 0 0)])] [some (.box 124 [(.fn 107 [] [])])] (pB r0) [some (.box 124 [(.fn 107 [] [])])]:=by
 subst er0;have k1:=mq [0] 1 (bPk l h0 h1);exact FMM.fi 1 ⟨[],[],[],[]⟩ Tryz.func165 [k1.o] (gc k1 gn)
theorem bPm(l:Lqq)(hl:l.length≤1000)(hu:uni 6 l):FMM Tp 165 [.p (fS l),(.fn 166 [] [(.ptr 0 0)])] [some (.box 124 [(.fn 107 [] [])])] (pB (l.any (fun x => !(dcB x)))) [some (.box 124 [(.fn 107 [] [])])]:=bPl hl hu (pD _ _).symm
theorem bWf(h0:l.length≤1000)(h1:uni 6 l)(er0:r0=(!(l.any (fun x => !(dcB x))))):FV Tp 106 [(.p (fS l)),(.fn 107 [] [])] base (pB r0) []:=by
 subst er0;have k1:=mq [0] 1 (bPm l h0 h1);exact FV.fi Tryz.func106 [k1.o] (gc k1 gn)
theorem yG(l:Lqq)(hl:l.length≤1000)(hu:uni 6 l){base:Nat}:FV Tp 106 [.p (fS l),(.fn 107 [] [])] base (pB (l.all (dcB))) []:=bWf hl hu (by rw [List.all_eq_not_any_not])
theorem bPn(h0:inR (x0-1))(er0:r0=(!(orB [x0,x1,x2,x3,x4,x5]))):FMM Tp 166 [(.p (.agg [(aB x0),(aB x1),(aB x2),(aB x3),(aB x4),(aB x5)])),(.ptr 0 0)] [some (.box 124 [(.fn 113 [] [])])] (pB r0) [some (.box 124 [(.fn 113 [] [])])]:=by
 subst er0;have k1:=fk 2 (bWa x0 x1 x2 x3 x4 x5 h0) rfl;exact FMM.fi 1 ⟨[],[],[],[]⟩ Tryz.func166 [k1.o] (gc k1 gn)
theorem aWm(x0:Int)(x1:Int)(x2:Int)(x3:Int)(x4:Int)(x5:Int)(he:inR ([x0,x1,x2,x3,x4,x5].getD 0 0-1)):FMM Tp 166 [(.p (.agg [(aB x0),(aB x1),(aB x2),(aB x3),(aB x4),(aB x5)])),.ptr 0 0] [some (.box 124 [(.fn 113 [] [])])] (pB (!(orB [x0,x1,x2,x3,x4,x5]))) [some (.box 124 [(.fn 113 [] [])])]:=bPn he rfl
def iJ(l:Lqq)(i:Nat):St:=⟨fr 19 [(0,(.p (fS l))),(1,(.fn 166 [] [(.ptr 0 0)])),(7,(pI (l.length:Int))),(8,(pI (i:Int)))],[some (.box 124 [(.fn 113 [] [])])]⟩
theorem bPo(hl0:aH Tp 1 kM (iJ l 0) (.exit 0) (iJ l i'0)):FMM Tp 77 [(.p (fS l)),(.fn 166 [] [(.ptr 0 0)])] [some (.box 124 [(.fn 113 [] [])])] (pI (-1:Int)) [some (.box 124 [(.fn 113 [] [])])]:=by
 exact FMM.fi 1 ⟨[],[],[],[]⟩ Tryz.func77 [hl0.k 6 ⟨(rng [(2,5),(9,10)]),[],[],[]⟩] (gc hl0.code gn)
theorem bPp(hl0:aH Tp 1 kM (iJ l 0) .ret (dI (iJ l i'0) [(4,(pI (i'0:Int)))])):FMM Tp 77 [(.p (fS l)),(.fn 166 [] [(.ptr 0 0)])] [some (.box 124 [(.fn 113 [] [])])] (pI (i'0:Int)) [some (.box 124 [(.fn 113 [] [])])]:=by
 exact FMM.fi 1 ⟨[],[],[],[]⟩ Tryz.func77 [hl0.k 6 ⟨(rng [(2,5),(9,10)]),[],[],[]⟩] (gc hl0.code gn)
theorem aTe(h0:(i:Int)<(l.length:Int))(h1:l[i]? = some [y100,y101,y102,y103,y104,y105])(h2:uni 6 l)(h3:inR ([y100,y101,y102,y103,y104,y105].getD 0 0-1))(h4:(orB [y100,y101,y102,y103,y104,y105])=false):aC Tp 1 kM (iJ l i) .ret (dI (iJ l i) [(4,(pI (i:Int)))]):=by
 have k1:=mq [0] 1 (aWm y100 y101 y102 y103 y104 y105 h3);exact aC.fi ⟨(rng [(2,2),(5,2),(9,10)]),[],[],[]⟩ [bT,.x (.agg [(aB y100),(aB y101),(aB y102),(aB y103),(aB y104),(aB y105)]),k1.o,bT] (gc (bI h4) (gc k1 (gc (aT (i:=i) h2 h1) (gc (bH (i:=i) h2 h1) (gc (bR (k:=6) (i:=(i:Int)) (by decide) h2 (kQ1 _) h1) (gc (aV h0) gn))))))
theorem aTf(h0:(i:Int)<(l.length:Int))(h1:l[i]? = some [y100,y101,y102,y103,y104,y105])(h2:uni 6 l)(h3:inR ([y100,y101,y102,y103,y104,y105].getD 0 0-1))(h4:(orB [y100,y101,y102,y103,y104,y105])=true)(h5:inR (((i+1):Nat):Int))(ei':i'=(i+1)):aC Tp 1 kM (iJ l i) .normal (iJ l i'):=by
 subst ei';have k1:=mq [0] 1 (aWm y100 y101 y102 y103 y104 y105 h3);exact aC.fi ⟨(rng [(2,5),(9,10)]),[],[],[]⟩ [bT,.x (.agg [(aB y100),(aB y101),(aB y102),(aB y103),(aB y104),(aB y105)]),k1.o,bF] (gc h5 (gc (aI h4) (gc k1 (gc (aT (i:=i) h2 h1) (gc (bH (i:=i) h2 h1) (gc (bR (k:=6) (i:=(i:Int)) (by decide) h2 (kQ1 _) h1) (gc (aV h0) gn)))))))
theorem aTg(h0:(l.length:Int)≤(i:Int)):aC Tp 1 kM (iJ l i) (.exit 0) (iJ l i):=by
 exact aC.fi ⟨(rng [(2,5),(9,10)]),[],[],[]⟩ [bF] (gc (bA h0) gn)
theorem bPq(l:Lqq)(hl:l.length≤1000)(hu:uni 6 l)(he:∀ x∈l,inR (x.getD 0 0-1)):FMM Tp 77 [.p (fS l),(.fn 166 [] [(.ptr 0 0)])] [some (.box 124 [(.fn 113 [] [])])] (pI (bK (fun x => !(orB x)) l)) [some (.box 124 [(.fn 113 [] [])])]:=by
 rcases aH.find (P:=Tp) (k:=1) (b:=kM) (fun i=>iJ l i) (fun i _=>dI (iJ l i) [(4,.p (aB (i:Int)))]) (iJ l l.length) .ret (.exit 0) (by simp) (by simp) (fun x => !(orB x)) l
  (fun i x hx hp=>by obtain ⟨a,b,c,d,e,f,rfl⟩:=len6 (hu _ (kQ5 hx));exact aTf (by have:=bC hx;omega) hx hu (he _ (kQ5 hx)) (by simpa using hp) (aO (by have:=bC hx;omega)) rfl)
  (fun i x hx hp=>by obtain ⟨a,b,c,d,e,f,rfl⟩:=len6 (hu _ (kQ5 hx));exact aTe (by have:=bC hx;omega) hx hu (he _ (kQ5 hx)) (by simpa using hp))
  (aTg (l:=l) (i:=l.length) (by omega)) with ⟨i,x,h1,h2,h3,h4⟩ | ⟨h1,h2,h3⟩
 ·rw [iA h2];exact bPp h4
 ·rw [iB h1];exact bPo h3
theorem bPr(h0:l.length≤1000)(h1:uni 6 l)(h2:∀ x∈l,inR (x.getD 0 0-1))(er0:r0=(decide ((bK (fun x => !(orB x)) l) ≥ (0:Int)))):FMM Tp 165 [(.p (fS l)),(.fn 166 [] [(.ptr 0 0)])] [some (.box 124 [(.fn 113 [] [])])] (pB r0) [some (.box 124 [(.fn 113 [] [])])]:=by
 subst er0;have k1:=mq [0] 1 (bPq l h0 h1 h2);exact FMM.fi 1 ⟨[],[],[],[]⟩ Tryz.func165 [k1.o] (gc k1 gn)
theorem bPs(l:Lqq)(hl:l.length≤1000)(hu:uni 6 l)(he:∀ x∈l,inR (x.getD 0 0-1)):FMM Tp 165 [.p (fS l),(.fn 166 [] [(.ptr 0 0)])] [some (.box 124 [(.fn 113 [] [])])] (pB (l.any (fun x => !(orB x)))) [some (.box 124 [(.fn 113 [] [])])]:=bPr hl hu he (pD _ _).symm
theorem bWg(h0:l.length≤1000)(h1:uni 6 l)(h2:∀ x∈l,inR (x.getD 0 0-1))(er0:r0=(!(l.any (fun x => !(orB x))))):FV Tp 106 [(.p (fS l)),(.fn 113 [] [])] base (pB r0) []:=by
 subst er0;have k1:=mq [0] 1 (bPs l h0 h1 h2);exact FV.fi Tryz.func106 [k1.o] (gc k1 gn)
theorem bJz(l:Lqq)(hl:l.length≤1000)(hu:uni 6 l)(he:∀ x∈l,inR (x.getD 0 0-1)){base:Nat}:FV Tp 106 [.p (fS l),(.fn 113 [] [])] base (pB (l.all (orB))) []:=bWg hl hu he (by rw [List.all_eq_not_any_not])
theorem bPt(h0:uni 2 sk∧sk.length≤1000)(er0:r0=(!(inB sk [x0,x1,x2,x3,x4,x5]))):FMM Tp 166 [(.p (.agg [(aB x0),(aB x1),(aB x2),(aB x3),(aB x4),(aB x5)])),(.ptr 0 0)] [some (.box 124 [(.fn 111 [] [(.rp [(aB dl),(fS sk),(fS dc)] 0)])])] (pB r0) [some (.box 124 [(.fn 111 [] [(.rp [(aB dl),(fS sk),(fS dc)] 0)])])]:=by
 subst er0;have k1:=fk 2 (bWd x0 x1 x2 x3 x4 x5 dl sk dc h0) rfl;exact FMM.fi 1 ⟨[],[],[],[]⟩ Tryz.func166 [k1.o] (gc k1 gn)
theorem aWn(x0:Int)(x1:Int)(x2:Int)(x3:Int)(x4:Int)(x5:Int)(dl:Int)(sk:Lqq)(dc:Lqq)(he:uni 2 sk∧sk.length≤1000):FMM Tp 166 [(.p (.agg [(aB x0),(aB x1),(aB x2),(aB x3),(aB x4),(aB x5)])),.ptr 0 0] [some (.box 124 [(.fn 111 [] [(.rp [(aB dl),(fS sk),(fS dc)] 0)])])] (pB (!(inB sk [x0,x1,x2,x3,x4,x5]))) [some (.box 124 [(.fn 111 [] [(.rp [(aB dl),(fS sk),(fS dc)] 0)])])]:=bPt he rfl
def iK(l:Lqq)(dl:Int)(sk:Lqq)(dc:Lqq)(i:Nat):St:=⟨fr 19 [(0,(.p (fS l))),(1,(.fn 166 [] [(.ptr 0 0)])),(7,(pI (l.length:Int))),(8,(pI (i:Int)))],[some (.box 124 [(.fn 111 [] [(.rp [(aB dl),(fS sk),(fS dc)] 0)])])]⟩
theorem bPu(hl0:aH Tp 1 kM (iK l dl sk dc 0) (.exit 0) (iK l dl sk dc i'0)):FMM Tp 77 [(.p (fS l)),(.fn 166 [] [(.ptr 0 0)])] [some (.box 124 [(.fn 111 [] [(.rp [(aB dl),(fS sk),(fS dc)] 0)])])] (pI (-1:Int)) [some (.box 124 [(.fn 111 [] [(.rp [(aB dl),(fS sk),(fS dc)] 0)])])]:=by
 exact FMM.fi 1 ⟨[],[],[],[]⟩ Tryz.func77 [hl0.k 6 ⟨(rng [(2,5),(9,10)]),[],[],[]⟩] (gc hl0.code gn)
theorem bPv(hl0:aH Tp 1 kM (iK l dl sk dc 0) .ret (dI (iK l dl sk dc i'0) [(4,(pI (i'0:Int)))])):FMM Tp 77 [(.p (fS l)),(.fn 166 [] [(.ptr 0 0)])] [some (.box 124 [(.fn 111 [] [(.rp [(aB dl),(fS sk),(fS dc)] 0)])])] (pI (i'0:Int)) [some (.box 124 [(.fn 111 [] [(.rp [(aB dl),(fS sk),(fS dc)] 0)])])]:=by
 exact FMM.fi 1 ⟨[],[],[],[]⟩ Tryz.func77 [hl0.k 6 ⟨(rng [(2,5),(9,10)]),[],[],[]⟩] (gc hl0.code gn)
theorem aTh(h0:(i:Int)<(l.length:Int))(h1:l[i]? = some [y100,y101,y102,y103,y104,y105])(h2:uni 6 l)(h3:uni 2 sk∧sk.length≤1000)(h4:(inB sk [y100,y101,y102,y103,y104,y105])=false):aC Tp 1 kM (iK l dl sk dc i) .ret (dI (iK l dl sk dc i) [(4,(pI (i:Int)))]):=by
 have k1:=mq [0] 1 (aWn y100 y101 y102 y103 y104 y105 dl sk dc h3);exact aC.fi ⟨(rng [(2,2),(5,2),(9,10)]),[],[],[]⟩ [bT,.x (.agg [(aB y100),(aB y101),(aB y102),(aB y103),(aB y104),(aB y105)]),k1.o,bT] (gc (bI h4) (gc k1 (gc (aT (i:=i) h2 h1) (gc (bH (i:=i) h2 h1) (gc (bR (k:=6) (i:=(i:Int)) (by decide) h2 (kQ1 _) h1) (gc (aV h0) gn))))))
theorem aTi(h0:(i:Int)<(l.length:Int))(h1:l[i]? = some [y100,y101,y102,y103,y104,y105])(h2:uni 6 l)(h3:uni 2 sk∧sk.length≤1000)(h4:(inB sk [y100,y101,y102,y103,y104,y105])=true)(h5:inR (((i+1):Nat):Int))(ei':i'=(i+1)):aC Tp 1 kM (iK l dl sk dc i) .normal (iK l dl sk dc i'):=by
 subst ei';have k1:=mq [0] 1 (aWn y100 y101 y102 y103 y104 y105 dl sk dc h3);exact aC.fi ⟨(rng [(2,5),(9,10)]),[],[],[]⟩ [bT,.x (.agg [(aB y100),(aB y101),(aB y102),(aB y103),(aB y104),(aB y105)]),k1.o,bF] (gc h5 (gc (aI h4) (gc k1 (gc (aT (i:=i) h2 h1) (gc (bH (i:=i) h2 h1) (gc (bR (k:=6) (i:=(i:Int)) (by decide) h2 (kQ1 _) h1) (gc (aV h0) gn)))))))
theorem aTj(h0:(l.length:Int)≤(i:Int)):aC Tp 1 kM (iK l dl sk dc i) (.exit 0) (iK l dl sk dc i):=by
 exact aC.fi ⟨(rng [(2,5),(9,10)]),[],[],[]⟩ [bF] (gc (bA h0) gn)
theorem bPw(l:Lqq)(dl:Int)(sk:Lqq)(dc:Lqq)(hl:l.length≤1000)(hu:uni 6 l)(he:∀ x∈l,uni 2 sk∧sk.length≤1000):FMM Tp 77 [.p (fS l),(.fn 166 [] [(.ptr 0 0)])] [some (.box 124 [(.fn 111 [] [(.rp [(aB dl),(fS sk),(fS dc)] 0)])])] (pI (bK (fun x => !(inB sk x)) l)) [some (.box 124 [(.fn 111 [] [(.rp [(aB dl),(fS sk),(fS dc)] 0)])])]:=by
 rcases aH.find (P:=Tp) (k:=1) (b:=kM) (fun i=>iK l dl sk dc i) (fun i _=>dI (iK l dl sk dc i) [(4,.p (aB (i:Int)))]) (iK l dl sk dc l.length) .ret (.exit 0) (by simp) (by simp) (fun x => !(inB sk x)) l
  (fun i x hx hp=>by obtain ⟨a,b,c,d,e,f,rfl⟩:=len6 (hu _ (kQ5 hx));exact aTi (by have:=bC hx;omega) hx hu (he _ (kQ5 hx)) (by simpa using hp) (aO (by have:=bC hx;omega)) rfl)
  (fun i x hx hp=>by obtain ⟨a,b,c,d,e,f,rfl⟩:=len6 (hu _ (kQ5 hx));exact aTh (by have:=bC hx;omega) hx hu (he _ (kQ5 hx)) (by simpa using hp))
  (aTj (l:=l) (i:=l.length) (by omega)) with ⟨i,x,h1,h2,h3,h4⟩ | ⟨h1,h2,h3⟩
 ·rw [iA h2];exact bPv h4
 ·rw [iB h1];exact bPu h3
theorem bPx(h0:l.length≤1000)(h1:uni 6 l)(h2:∀ x∈l,uni 2 sk∧sk.length≤1000)(er0:r0=(decide ((bK (fun x => !(inB sk x)) l) ≥ (0:Int)))):FMM Tp 165 [(.p (fS l)),(.fn 166 [] [(.ptr 0 0)])] [some (.box 124 [(.fn 111 [] [(.rp [(aB dl),(fS sk),(fS dc)] 0)])])] (pB r0) [some (.box 124 [(.fn 111 [] [(.rp [(aB dl),(fS sk),(fS dc)] 0)])])]:=by
 subst er0;have k1:=mq [0] 1 (bPw l dl sk dc h0 h1 h2);exact FMM.fi 1 ⟨[],[],[],[]⟩ Tryz.func165 [k1.o] (gc k1 gn)
theorem bPy(l:Lqq)(dl:Int)(sk:Lqq)(dc:Lqq)(hl:l.length≤1000)(hu:uni 6 l)(he:∀ x∈l,uni 2 sk∧sk.length≤1000):FMM Tp 165 [.p (fS l),(.fn 166 [] [(.ptr 0 0)])] [some (.box 124 [(.fn 111 [] [(.rp [(aB dl),(fS sk),(fS dc)] 0)])])] (pB (l.any (fun x => !(inB sk x)))) [some (.box 124 [(.fn 111 [] [(.rp [(aB dl),(fS sk),(fS dc)] 0)])])]:=bPx hl hu he (pD _ _).symm
theorem bWh(h0:l.length≤1000)(h1:uni 6 l)(h2:∀ x∈l,uni 2 sk∧sk.length≤1000)(er0:r0=(!(l.any (fun x => !(inB sk x))))):FV Tp 106 [(.p (fS l)),(.fn 111 [] [(.rp [(aB dl),(fS sk),(fS dc)] 0)])] base (pB r0) []:=by
 subst er0;have k1:=mq [0] 1 (bPy l dl sk dc h0 h1 h2);exact FV.fi Tryz.func106 [k1.o] (gc k1 gn)
theorem aTk(l:Lqq)(dl:Int)(sk:Lqq)(dc:Lqq)(hl:l.length≤1000)(hu:uni 6 l)(he:∀ x∈l,uni 2 sk∧sk.length≤1000){base:Nat}:FV Tp 106 [.p (fS l),(.fn 111 [] [(.rp [(aB dl),(fS sk),(fS dc)] 0)])] base (pB (l.all (inB sk))) []:=bWh hl hu he (by rw [List.all_eq_not_any_not])
theorem bWi(h0:(within (sk.length:Int) (1:Int) (30:Int))=false):FV Tp 44 [(.p (.agg [(aB dl),(fS sk),(fS dc)]))] base (pI 2) []:=by
 have k1:=fk 1 (bW (sk.length:Int) (1:Int) (30:Int)) rfl;exact FV.fi Tryz.func44 [k1.o,bT,bT,bT,bT,bT] (g5c (bI h0) (gc k1 gn))
theorem bWj(h0:(within (sk.length:Int) (1:Int) (30:Int))=true)(h1:(40:Int)<(dc.length:Int)):FV Tp 44 [(.p (.agg [(aB dl),(fS sk),(fS dc)]))] base (pI 2) []:=by
 have k1:=fk 1 (bW (sk.length:Int) (1:Int) (30:Int)) rfl;exact FV.fi Tryz.func44 [k1.o,bF,bF,bF,bF,bF,bT] (gc (aV h1) (g5c (aI h0) (gc k1 gn)))
theorem bWk(h0:(within (sk.length:Int) (1:Int) (30:Int))=true)(h1:(dc.length:Int)≤40)(h2:(within dl (0:Int) (10000:Int))=false):FV Tp 44 [(.p (.agg [(aB dl),(fS sk),(fS dc)]))] base (pI 3) []:=by
 have k1:=fk 1 (bW (sk.length:Int) (1:Int) (30:Int)) rfl;have k2:=fk 1 (bW dl (0:Int) (10000:Int)) rfl;exact FV.fi Tryz.func44 [k1.o,bF,bF,bF,bF,bF,bF,k2.o,bT,bT,bT,bT,bT] (g5c (bI h2) (gc k2 (gc (bA h1) (g5c (aI h0) (gc k1 gn)))))
theorem bWl(h0:(within (sk.length:Int) (1:Int) (30:Int))=true)(h1:(dc.length:Int)≤40)(h2:(within dl (0:Int) (10000:Int))=true)(h3:sk.length≤1000)(h4:uni 2 sk)(h5:(sk.all (skB))=false):FV Tp 44 [(.p (.agg [(aB dl),(fS sk),(fS dc)]))] base (pI 3) []:=by
 have k1:=fk 1 (bW (sk.length:Int) (1:Int) (30:Int)) rfl;have k2:=fk 1 (bW dl (0:Int) (10000:Int)) rfl;have k3:=fk 1 (vH sk h3 h4) rfl;exact FV.fi Tryz.func44 [k1.o,bF,bF,bF,bF,bF,bF,k2.o,bF,bF,bF,k3.o,bF,bF,bT,bT,bT,bT,bT] (g5c (bI h5) (g2c (aI h2) (gc k3 (g3c (aI h2) (gc k2 (gc (bA h1) (g5c (aI h0) (gc k1 gn))))))))
theorem bWm(h0:(within (sk.length:Int) (1:Int) (30:Int))=true)(h1:(dc.length:Int)≤40)(h2:(within dl (0:Int) (10000:Int))=true)(h3:sk.length≤1000)(h4:uni 2 sk)(h5:(sk.all (skB))=true)(h6:dc.length≤1000)(h7:uni 6 dc)(h8:(dc.all (dcB))=false):FV Tp 44 [(.p (.agg [(aB dl),(fS sk),(fS dc)]))] base (pI 3) []:=by
 have k1:=fk 1 (bW (sk.length:Int) (1:Int) (30:Int)) rfl;have k2:=fk 1 (bW dl (0:Int) (10000:Int)) rfl;have k3:=fk 1 (vH sk h3 h4) rfl;have k4:=fk 1 (yG dc h6 h7) rfl;exact FV.fi Tryz.func44 [k1.o,bF,bF,bF,bF,bF,bF,k2.o,bF,bF,bF,k3.o,bF,bF,bF,bF,bF,k4.o,bF,bF,bT] (gc (bI h8) (g2c (aI h5) (gc k4 (g3c (aI h5) (g2c (aI h2) (gc k3 (g3c (aI h2) (gc k2 (gc (bA h1) (g5c (aI h0) (gc k1 gn)))))))))))
theorem bWn(h0:(within (sk.length:Int) (1:Int) (30:Int))=true)(h1:(dc.length:Int)≤40)(h2:(within dl (0:Int) (10000:Int))=true)(h3:sk.length≤1000)(h4:uni 2 sk)(h5:(sk.all (skB))=true)(h6:dc.length≤1000)(h7:uni 6 dc)(h8:(dc.all (dcB))=true)(h9:uni 2 sk∧sk.length≤1000)(h10:(aP sk 0).length≤1000)(h11:∀ x∈(aP sk 0),-1000000≤x∧x≤1000000)(h12:(!decide (aP sk 0).Nodup)=true):FV Tp 44 [(.p (.agg [(aB dl),(fS sk),(fS dc)]))] base (pI 5) []:=by
 have k1:=fk 1 (bW (sk.length:Int) (1:Int) (30:Int)) rfl;have k2:=fk 1 (bW dl (0:Int) (10000:Int)) rfl;have k3:=fk 1 (vH sk h3 h4) rfl;have k4:=fk 1 (yG dc h6 h7) rfl;have k5:=fk 1 (oJ dl sk dc h9) rfl;exact FV.fi Tryz.func44 [k1.o,bF,bF,bF,bF,bF,bF,k2.o,bF,bF,bF,k3.o,bF,bF,bF,bF,bF,k4.o,bF,bF,bF,k5.o,.c (pB (!decide (aP sk 0).Nodup)) [],bT,bT,bT,bT] (g4c h12 (gt (FC Tp 108 [(.own 1)] [(1,(.row 3 ((aP sk 0).length) ((aP sk 0).map aB)))] 2 (pB (!decide (aP sk 0).Nodup)) []) (fv (wT (aP sk 0) h10 h11)) (gc k5 (gc (aI h8) (g2c (aI h5) (gc k4 (g3c (aI h5) (g2c (aI h2) (gc k3 (g3c (aI h2) (gc k2 (gc (bA h1) (g5c (aI h0) (gc k1 gn))))))))))))))
theorem bWo(h0:(within (sk.length:Int) (1:Int) (30:Int))=true)(h1:(dc.length:Int)≤40)(h2:(within dl (0:Int) (10000:Int))=true)(h3:sk.length≤1000)(h4:uni 2 sk)(h5:(sk.all (skB))=true)(h6:dc.length≤1000)(h7:uni 6 dc)(h8:(dc.all (dcB))=true)(h9:uni 2 sk∧sk.length≤1000)(h10:(aP sk 0).length≤1000)(h11:∀ x∈(aP sk 0),-1000000≤x∧x≤1000000)(h12:(!decide (aP sk 0).Nodup)=false)(h13:uni 6 dc∧dc.length≤1000)(h14:(aP dc 0).length≤1000)(h15:∀ x∈(aP dc 0),-1000000≤x∧x≤1000000)(h16:(!decide (aP dc 0).Nodup)=true):FV Tp 44 [(.p (.agg [(aB dl),(fS sk),(fS dc)]))] base (pI 5) []:=by
 have k1:=fk 1 (bW (sk.length:Int) (1:Int) (30:Int)) rfl;have k2:=fk 1 (bW dl (0:Int) (10000:Int)) rfl;have k3:=fk 1 (vH sk h3 h4) rfl;have k4:=fk 1 (yG dc h6 h7) rfl;have k5:=fk 1 (oJ dl sk dc h9) rfl;have k6:=fk 2 (aKg dl sk dc h13) rfl;exact FV.fi Tryz.func44 [k1.o,bF,bF,bF,bF,bF,bF,k2.o,bF,bF,bF,k3.o,bF,bF,bF,bF,bF,k4.o,bF,bF,bF,k5.o,.c (pB (!decide (aP sk 0).Nodup)) [],bF,bF,k6.o,bF,.c (pB (!decide (aP dc 0).Nodup)) [],bF,bT] (gc h16 (gc h12 (gt (FC Tp 108 [(.own 2)] [(2,(.row 3 ((aP dc 0).length) ((aP dc 0).map aB)))] 3 (pB (!decide (aP dc 0).Nodup)) []) (fv (wT (aP dc 0) h14 h15)) (gc h12 (gc k6 (g2c h12 (gt (FC Tp 108 [(.own 1)] [(1,(.row 3 ((aP sk 0).length) ((aP sk 0).map aB)))] 2 (pB (!decide (aP sk 0).Nodup)) []) (fv (wT (aP sk 0) h10 h11)) (gc k5 (gc (aI h8) (g2c (aI h5) (gc k4 (g3c (aI h5) (g2c (aI h2) (gc k3 (g3c (aI h2) (gc k2 (gc (bA h1) (g5c (aI h0) (gc k1 gn)))))))))))))))))))
theorem bWp(h0:(within (sk.length:Int) (1:Int) (30:Int))=true)(h1:(dc.length:Int)≤40)(h2:(within dl (0:Int) (10000:Int))=true)(h3:sk.length≤1000)(h4:uni 2 sk)(h5:(sk.all (skB))=true)(h6:dc.length≤1000)(h7:uni 6 dc)(h8:(dc.all (dcB))=true)(h9:uni 2 sk∧sk.length≤1000)(h10:(aP sk 0).length≤1000)(h11:∀ x∈(aP sk 0),-1000000≤x∧x≤1000000)(h12:(!decide (aP sk 0).Nodup)=false)(h13:uni 6 dc∧dc.length≤1000)(h14:(aP dc 0).length≤1000)(h15:∀ x∈(aP dc 0),-1000000≤x∧x≤1000000)(h16:(!decide (aP dc 0).Nodup)=false)(h17:∀ x∈dc,uni 2 sk∧sk.length≤1000)(h18:(dc.all (inB sk))=false):FV Tp 44 [(.p (.agg [(aB dl),(fS sk),(fS dc)]))] base (pI 1) []:=by
 have k1:=fk 1 (bW (sk.length:Int) (1:Int) (30:Int)) rfl;have k2:=fk 1 (bW dl (0:Int) (10000:Int)) rfl;have k3:=fk 1 (vH sk h3 h4) rfl;have k4:=fk 1 (yG dc h6 h7) rfl;have k5:=fk 1 (oJ dl sk dc h9) rfl;have k6:=fk 2 (aKg dl sk dc h13) rfl;have k7:=fk 2 (aTk dc dl sk dc h6 h7 h17) rfl;exact FV.fi Tryz.func44 [k1.o,bF,bF,bF,bF,bF,bF,k2.o,bF,bF,bF,k3.o,bF,bF,bF,bF,bF,k4.o,bF,bF,bF,k5.o,.c (pB (!decide (aP sk 0).Nodup)) [],bF,bF,k6.o,bF,.c (pB (!decide (aP dc 0).Nodup)) [],bF,bF,.g 1 ⟨[],[1,2],[0],[]⟩,.x (fS dc),k7.o,bT] (gc (bI h18) (gc k7 (gr (fS dc) (gc h16 (gc h12 (gt (FC Tp 108 [(.own 2)] [(2,(.row 3 ((aP dc 0).length) ((aP dc 0).map aB)))] 3 (pB (!decide (aP dc 0).Nodup)) []) (fv (wT (aP dc 0) h14 h15)) (gc h12 (gc k6 (g2c h12 (gt (FC Tp 108 [(.own 1)] [(1,(.row 3 ((aP sk 0).length) ((aP sk 0).map aB)))] 2 (pB (!decide (aP sk 0).Nodup)) []) (fv (wT (aP sk 0) h10 h11)) (gc k5 (gc (aI h8) (g2c (aI h5) (gc k4 (g3c (aI h5) (g2c (aI h2) (gc k3 (g3c (aI h2) (gc k2 (gc (bA h1) (g5c (aI h0) (gc k1 gn))))))))))))))))))))))
theorem bWq(h0:(within (sk.length:Int) (1:Int) (30:Int))=true)(h1:(dc.length:Int)≤40)(h2:(within dl (0:Int) (10000:Int))=true)(h3:sk.length≤1000)(h4:uni 2 sk)(h5:(sk.all (skB))=true)(h6:dc.length≤1000)(h7:uni 6 dc)(h8:(dc.all (dcB))=true)(h9:uni 2 sk∧sk.length≤1000)(h10:(aP sk 0).length≤1000)(h11:∀ x∈(aP sk 0),-1000000≤x∧x≤1000000)(h12:(!decide (aP sk 0).Nodup)=false)(h13:uni 6 dc∧dc.length≤1000)(h14:(aP dc 0).length≤1000)(h15:∀ x∈(aP dc 0),-1000000≤x∧x≤1000000)(h16:(!decide (aP dc 0).Nodup)=false)(h17:∀ x∈dc,uni 2 sk∧sk.length≤1000)(h18:(dc.all (inB sk))=true)(h19:∀ x∈dc,inR (x.getD 0 0-1))(h20:(dc.all (orB))=false):FV Tp 44 [(.p (.agg [(aB dl),(fS sk),(fS dc)]))] base (pI 4) []:=by
 have k1:=fk 1 (bW (sk.length:Int) (1:Int) (30:Int)) rfl;have k2:=fk 1 (bW dl (0:Int) (10000:Int)) rfl;have k3:=fk 1 (vH sk h3 h4) rfl;have k4:=fk 1 (yG dc h6 h7) rfl;have k5:=fk 1 (oJ dl sk dc h9) rfl;have k6:=fk 2 (aKg dl sk dc h13) rfl;have k7:=fk 2 (aTk dc dl sk dc h6 h7 h17) rfl;have k8:=fk 2 (bJz dc h6 h7 h19) rfl;exact FV.fi Tryz.func44 [k1.o,bF,bF,bF,bF,bF,bF,k2.o,bF,bF,bF,k3.o,bF,bF,bF,bF,bF,k4.o,bF,bF,bF,k5.o,.c (pB (!decide (aP sk 0).Nodup)) [],bF,bF,k6.o,bF,.c (pB (!decide (aP dc 0).Nodup)) [],bF,bF,.g 1 ⟨[],[1,2],[0],[]⟩,.x (fS dc),k7.o,bF,.x (fS dc),k8.o,bT] (gc (bI h20) (gc k8 (gr (fS dc) (gc (aI h18) (gc k7 (gr (fS dc) (gc h16 (gc h12 (gt (FC Tp 108 [(.own 2)] [(2,(.row 3 ((aP dc 0).length) ((aP dc 0).map aB)))] 3 (pB (!decide (aP dc 0).Nodup)) []) (fv (wT (aP dc 0) h14 h15)) (gc h12 (gc k6 (g2c h12 (gt (FC Tp 108 [(.own 1)] [(1,(.row 3 ((aP sk 0).length) ((aP sk 0).map aB)))] 2 (pB (!decide (aP sk 0).Nodup)) []) (fv (wT (aP sk 0) h10 h11)) (gc k5 (gc (aI h8) (g2c (aI h5) (gc k4 (g3c (aI h5) (g2c (aI h2) (gc k3 (g3c (aI h2) (gc k2 (gc (bA h1) (g5c (aI h0) (gc k1 gn)))))))))))))))))))))))))
theorem bWr(h0:(within (sk.length:Int) (1:Int) (30:Int))=true)(h1:(dc.length:Int)≤40)(h2:(within dl (0:Int) (10000:Int))=true)(h3:sk.length≤1000)(h4:uni 2 sk)(h5:(sk.all (skB))=true)(h6:dc.length≤1000)(h7:uni 6 dc)(h8:(dc.all (dcB))=true)(h9:uni 2 sk∧sk.length≤1000)(h10:(aP sk 0).length≤1000)(h11:∀ x∈(aP sk 0),-1000000≤x∧x≤1000000)(h12:(!decide (aP sk 0).Nodup)=false)(h13:uni 6 dc∧dc.length≤1000)(h14:(aP dc 0).length≤1000)(h15:∀ x∈(aP dc 0),-1000000≤x∧x≤1000000)(h16:(!decide (aP dc 0).Nodup)=false)(h17:∀ x∈dc,uni 2 sk∧sk.length≤1000)(h18:(dc.all (inB sk))=true)(h19:∀ x∈dc,inR (x.getD 0 0-1))(h20:(dc.all (orB))=true):FV Tp 44 [(.p (.agg [(aB dl),(fS sk),(fS dc)]))] base (pI 0) []:=by
 have k1:=fk 1 (bW (sk.length:Int) (1:Int) (30:Int)) rfl;have k2:=fk 1 (bW dl (0:Int) (10000:Int)) rfl;have k3:=fk 1 (vH sk h3 h4) rfl;have k4:=fk 1 (yG dc h6 h7) rfl;have k5:=fk 1 (oJ dl sk dc h9) rfl;have k6:=fk 2 (aKg dl sk dc h13) rfl;have k7:=fk 2 (aTk dc dl sk dc h6 h7 h17) rfl;have k8:=fk 2 (bJz dc h6 h7 h19) rfl;exact FV.fi Tryz.func44 [k1.o,bF,bF,bF,bF,bF,bF,k2.o,bF,bF,bF,k3.o,bF,bF,bF,bF,bF,k4.o,bF,bF,bF,k5.o,.c (pB (!decide (aP sk 0).Nodup)) [],bF,bF,k6.o,bF,.c (pB (!decide (aP dc 0).Nodup)) [],bF,bF,.g 1 ⟨[],[1,2],[0],[]⟩,.x (fS dc),k7.o,bF,.x (fS dc),k8.o,bF] (gc (aI h20) (gc k8 (gr (fS dc) (gc (aI h18) (gc k7 (gr (fS dc) (gc h16 (gc h12 (gt (FC Tp 108 [(.own 2)] [(2,(.row 3 ((aP dc 0).length) ((aP dc 0).map aB)))] 3 (pB (!decide (aP dc 0).Nodup)) []) (fv (wT (aP dc 0) h14 h15)) (gc h12 (gc k6 (g2c h12 (gt (FC Tp 108 [(.own 1)] [(1,(.row 3 ((aP sk 0).length) ((aP sk 0).map aB)))] 2 (pB (!decide (aP sk 0).Nodup)) []) (fv (wT (aP sk 0) h10 h11)) (gc k5 (gc (aI h8) (g2c (aI h5) (gc k4 (g3c (aI h5) (g2c (aI h2) (gc k3 (g3c (aI h2) (gc k2 (gc (bA h1) (g5c (aI h0) (gc k1 gn)))))))))))))))))))))))))
end
section

def bJw(dl:Int)(sk dc:Lqq):Int :=
 if within (sk.length:Int) 1 30=false∨(40:Int)<(dc.length:Int) then 2
 else if within dl 0 10000=false∨sk.all skB=false∨dc.all dcB=false then 3
 else if ¬ (aP sk 0).Nodup∨¬ (aP dc 0).Nodup then 5
 else if dc.all (inB sk)=false then 1
 else if dc.all orB=false then 4 else 0

structure bG (dl:Int) (sk dc:Lqq):Prop where
 us:uni 2 sk
 ud:uni 6 dc
 len:1≤sk.length∧sk.length≤30
 len2:dc.length≤40
 hdl:0≤dl∧dl≤10000
 hsk:∀ x∈sk,skB x=true
 hdc:∀ x∈dc,dcB x=true
 ns:(aP sk 0).Nodup
 nd:(aP dc 0).Nodup
 inb:∀ x∈dc,inB sk x=true
 ord:∀ x∈dc,orB x=true

theorem cH{n lo hi:Int}:within n lo hi=true↔lo≤n∧n≤hi:=by simp [within]
theorem wR(f:Lqq)(j:Nat):(aP f j).length=f.length:=by simp [aP]
theorem aWj{f:Lqq}{j:Nat}{n:Int}(h:n∈aP f j):∃ x∈f,x.getD j 0=n:=by simpa [aP] using h
theorem aBe{x:List Int}:skB x=true↔(1≤x.getD 0 0∧x.getD 0 0≤999) ∧ -1≤x.getD 1 0∧x.getD 1 0≤360000:=by
 unfold skB;rw [kQ7,cH,cH]
theorem kF{x:List Int}:dcB x=true↔(1≤x.getD 0 0∧x.getD 0 0≤9999)∧(0≤x.getD 1 0∧x.getD 1 0≤9)∧(0≤x.getD 2 0∧x.getD 2 0≤10000)∧0≤x.getD 4 0∧x.getD 4 0≤nC (x.getD 1 0):=by
 unfold dcB;rw [kQ7,kQ7,kQ7,cH,cH,cH,cH]

theorem bVw(dl:Int)(sk dc:Lqq)(us:uni 2 sk)(ud:uni 6 dc){base:Nat}:FV Tp 44 [.p (.agg (cR dl sk dc))] base (.p (aB (bJw dl sk dc))) []:=by
 unfold bJw;cases h1:within (sk.length:Int) 1 30 with
 | false=>rw [if_pos (.inl rfl)];exact bWi h1
 | true =>
 have l1:=(cH.1 h1)
 by_cases h2:(40:Int)<(dc.length:Int)
 ·rw [if_pos (.inr h2)];exact bWj h1 h2
 rw [if_neg (by simp [h2])]
 have h2':(dc.length:Int)≤40:=by omega
 cases h3:within dl 0 10000 with
 | false=>rw [if_pos (.inl rfl)];exact bWk h1 h2' h3
 | true =>
 have hs:sk.length≤1000:=by omega
 have hd:dc.length≤1000:=by omega
 cases h4:sk.all skB with
 | false=>rw [if_pos (.inr (.inl rfl))];exact bWl h1 h2' h3 hs us h4
 | true =>
 cases h5:dc.all dcB with
 | false=>rw [if_pos (.inr (.inr rfl))];exact bWm h1 h2' h3 hs us h4 hd ud h5
 | true =>
 rw [if_neg (by simp)]
 have b1:∀ x∈aP sk 0,-1000000≤x∧x≤1000000:=fun n hn=>by
  obtain ⟨x,hx,rfl⟩:=aWj hn;have:=aBe.1 (gA.1 h4 x hx);omega
 have b2:∀ x∈aP dc 0,-1000000≤x∧x≤1000000:=fun n hn=>by
  obtain ⟨x,hx,rfl⟩:=aWj hn;have:=kF.1 (gA.1 h5 x hx);omega
 have b3:∀ x∈dc,inR (x.getD 0 0-1):=fun x hx=>by
  have:=kF.1 (gA.1 h5 x hx);unfold inR;omega
 have c1:(aP sk 0).length≤1000:=by rw [wR];exact hs
 have c2:(aP dc 0).length≤1000:=by rw [wR];exact hd
 by_cases h6:(aP sk 0).Nodup
 ·by_cases h7:(aP dc 0).Nodup
  ·rw [if_neg (by simp [h6,h7])]
   cases h8:dc.all (inB sk) with
   | false=>rw [if_pos rfl];exact bWp h1 h2' h3 hs us h4 hd ud h5 ⟨us,hs⟩ c1 b1 (by simp [h6]) ⟨ud,hd⟩ c2 b2 (by simp [h7]) (fun _ _=>⟨us,hs⟩) h8
   | true =>
    rw [if_neg (by simp)]
    cases h9:dc.all orB with
    | false=>rw [if_pos rfl];exact bWq h1 h2' h3 hs us h4 hd ud h5 ⟨us,hs⟩ c1 b1 (by simp [h6]) ⟨ud,hd⟩ c2 b2 (by simp [h7]) (fun _ _=>⟨us,hs⟩) h8 b3 h9
    | true=>rw [if_neg (by simp)];exact bWr h1 h2' h3 hs us h4 hd ud h5 ⟨us,hs⟩ c1 b1 (by simp [h6]) ⟨ud,hd⟩ c2 b2 (by simp [h7]) (fun _ _=>⟨us,hs⟩) h8 b3 h9
  ·rw [if_pos (.inr h7)];exact bWo h1 h2' h3 hs us h4 hd ud h5 ⟨us,hs⟩ c1 b1 (by simp [h6]) ⟨ud,hd⟩ c2 b2 (by simp [h7])
 ·rw [if_pos (.inl h6)];exact bWn h1 h2' h3 hs us h4 hd ud h5 ⟨us,hs⟩ c1 b1 (by simp [h6])

theorem bPa{dl:Int}{sk dc:Lqq}(us:uni 2 sk)(ud:uni 6 dc):bJw dl sk dc=0↔bG dl sk dc:=by
 unfold bJw;constructor
 ·intro h
  split at h
  ·simp at h
  rename_i h1
  split at h
  ·simp at h
  rename_i h2
  split at h
  ·simp at h
  rename_i h3
  split at h
  ·simp at h
  rename_i h4
  split at h
  ·simp at h
  rename_i h5;simp only [not_or,Bool.not_eq_false,Int.not_lt,Classical.not_not] at h1 h2 h3 h4 h5
  have:=cH.1 h1.1;exact ⟨us,ud,by omega,by omega,cH.1 h2.1,fun x hx=>gA.1 h2.2.1 x hx,fun x hx=>gA.1 h2.2.2 x hx,h3.1,h3.2,fun x hx=>gA.1 h4 x hx,fun x hx=>gA.1 h5 x hx⟩
 ·intro h
  have e1:within (sk.length:Int) 1 30=true:=cH.2 (by have:=h.len;omega)
  have e2:within dl 0 10000=true:=cH.2 h.hdl;have e3:sk.all skB=true:=gA.2 h.hsk;have e4:dc.all dcB=true:=gA.2 h.hdc;have e5:dc.all (inB sk)=true:=gA.2 h.inb;have e6:dc.all orB=true:=gA.2 h.ord;have:=h.len2;rw [if_neg (by rw [e1];simp;omega),if_neg (by rw [e2,e3,e4];simp),if_neg (by simp [h.ns,h.nd]),if_neg (by rw [e5];simp),if_neg (by rw [e6];simp)]
end
end KV
end Go.Proofs
section
namespace Go.Proofs
open Go.RowKit Go.Lib Go.Sort
namespace KV

theorem aSw{P:Program}{C:Cx}{w w':World}{ty n b:Nat}{cs cs':List PV}{arr arr':Array Value}(hM:aR P C [some (.row ty n cs)] w)(hι:C.ι 0=some b)(hb:w.heap[b]? = some (.cells arr ty (0,0)))
  (hos:w'.os=w.os) (htp:w'.tape=w.tape) (hou:w'.output=w.output) (hsz:w.heap.size≤w'.heap.size) (hot:∀ b',b'<w.heap.size→b'≠b→w'.heap[b']? = w.heap[b']?)
  (hb':w'.heap[b]? = some (.cells arr' ty (0,0))) (hsa:arr'.size=arr.size) (hl:cs'.length=cs.length) (hr:∀ j (h:j<cs'.length),cN C.F w' cs'[j] (arr'.getD j undef)) (ho:∀ j,j<cs'.length→(arr'.getD j undef).oneCell'=true) :
  Fr C [some (.row ty n cs)] w C [some (.row ty n cs')] w'∧aR P C [some (.row ty n cs')] w':=by
 have at0:∀ (id:Nat) (o:AO),([some (.row ty n cs)]:Mem)[id]? = some (some o)→id=0∧o = .row ty n cs:=fun id o h=>by
  cases id with
  | zero=>simp at h;exact ⟨rfl,h.symm⟩
  | succ i=>simp at h
 have at1:∀ (id:Nat) (o:AO),([some (.row ty n cs')]:Mem)[id]? = some (some o)→id=0∧o = .row ty n cs':=fun id o h=>by
  cases id with
  | zero=>simp at h;exact ⟨rfl,h.symm⟩
  | succ i=>simp at h
 refine ⟨⟨hos,htp,hou,hsz,fun b' h1 h2=>hot b' h1 fun he => ?_,fun id o hm => ?_,fun id o hm ty' n' cs1 hx => ?_,fun id o hm o' hx hl => ?_,fun id o b' hm hl hbb => ?_,fun _ h=>h,fun _ h => .inl h⟩,
  ⟨fun id ty' n' cs1 hm => ?_,fun id ty' cs1 hm => ?_,fun id es cl hm => ?_,fun id id' o o' b' h1 _ h2 _ _ _ => ?_,fun id o b' hm hl hbb => ?_,fun b' hf=>kQ8 (hM.Fs b' hf) hsz,fun id o b' hm hl hbb => ?_⟩⟩
 ·subst he;exact h2 0 _ rfl rfl hι
 ·obtain ⟨rfl,rfl⟩:=at0 id o hm
  exact ⟨⟨_,rfl⟩,rfl,rfl⟩
 ·obtain ⟨rfl,rfl⟩:=at0 id o hm
  obtain ⟨_,he⟩:=at1 _ _ hx;cases he;exact ⟨cs,rfl⟩
 ·obtain ⟨rfl,rfl⟩:=at0 id o hm
  rfl
 ·obtain ⟨rfl,rfl⟩:=at1 id o hm
  exact .inr ⟨0,_,rfl,rfl,hbb⟩
 ·obtain ⟨rfl,he⟩:=at1 id _ hm
  cases he
  rcases hM.row 0 _ _ _ rfl with ⟨hn,_⟩ | ⟨b',arr1,i,q1,q2,q3,q4,q5,q6,q7,q8⟩
  ·rw [hι] at hn;cases hn
  ·rw [hι] at q1;cases q1
   rw [hb] at q2;cases q2
   exact .inr ⟨b,arr',i,hι,hb',q3,by rw [hsa,q4],by rw [hl,q5],q6,q7,hr,ho⟩
 ·obtain ⟨_,he⟩:=at1 id _ hm;cases he
 ·obtain ⟨_,he⟩:=at1 id _ hm;cases he
 ·obtain ⟨rfl,_⟩:=at1 id _ h1
  obtain ⟨rfl,_⟩:=at1 id' _ h2;rfl
 ·obtain ⟨rfl,_⟩:=at1 id _ hm
  exact hM.nF 0 _ b' rfl rfl hbb
 ·obtain ⟨rfl,_⟩:=at1 id _ hm
  exact kQ8 (hM.lt 0 _ b' rfl rfl hbb) hsz

def nI(k:Nat)(x:List Int):List Value:=(List.range k).map fun i => .int .i64 (x.getD i 0)
theorem aEb(k:Nat)(x:List Int):(nI k x).length=k:=by simp [nI]
theorem aEc(k:Nat)(x:List Int):∀ v∈nI k x,v.oneCell'=true:=fun v hv=>by
 obtain ⟨i,_,rfl⟩:=kQ9.1 hv;rfl
def cfL(x y:List Int):Int:=compareInt (x.getD 0 0) (y.getD 0 0)
theorem ltL(x y:List Int):ltOf cfL x y=decide (x.getD 0 0<y.getD 0 0):=by
 unfold ltOf cfL compareInt;generalize x.getD 0 0=a;generalize y.getD 0 0=b
 by_cases h1:a<b
 ·simp [h1]
 ·by_cases h2:b<a <;> simp [h1,h2]
theorem cAu:SWO (ltOf cfL) where
 irrefl x:=by rw [ltL];simp
 trans x y z h1 h2:=by rw [ltL] at *;simp only [decide_eq_true_eq] at *;omega
 ntrans x y z h1 h2:=by rw [ltL] at *;simp only [decide_eq_false_iff_not] at *;omega
def aA(l:Lqq):Lqq:=l.mergeSort fun a b=>decide (a.getD 0 0≤b.getD 0 0)
theorem fG(l:Lqq):(aA l).Perm l:=List.mergeSort_perm _ _
theorem qJ(l:Lqq):(aA l).Pairwise fun a b=>a.getD 0 0≤b.getD 0 0:=by
 have:=List.pairwise_mergeSort (le:=fun a b:List Int=>decide (a.getD 0 0≤b.getD 0 0)) (fun a b c h1 h2=>by simp only [decide_eq_true_eq] at *;omega) (fun a b=>by simp only [xV,decide_eq_true_eq];omega) l
 exact this.imp fun h=>of_decide_eq_true h
theorem aKf{l:Lqq}(hn:(aP l 0).Nodup){a b:List Int}(ha:a∈l)(hb:b∈l)(h:a.getD 0 0=b.getD 0 0):a=b:=by
 induction l with
 | nil=>cases ha
 | cons x l ih =>
  unfold aP at hn ih
  rw [gZ,List.nodup_cons] at hn
  rcases jH.1 ha with rfl | ha' <;> rcases jH.1 hb with rfl | hb'
  ·rfl
  ·exact absurd (kQ9.2 ⟨b,hb',h.symm⟩) hn.1
  ·exact absurd (kQ9.2 ⟨a,ha',h⟩) hn.1
  ·exact ih hn.2 ha' hb'
theorem aSx{l l':Lqq}(hn:(aP l 0).Nodup)(hp:l'.Perm l)(hs:l'.Pairwise fun a b=>a.getD 0 0≤b.getD 0 0):l'=aA l :=
 List.Perm.eq_of_pairwise (le:=fun a b=>a.getD 0 0≤b.getD 0 0) (fun a b ha hb h1 h2=>aKf hn (hp.mem_iff.1 ha) ((fG l).mem_iff.1 hb) (by omega)) hs (qJ l) (hp.trans (fG l).symm)
theorem bJv{k:Nat}{l l':Lqq}(hp:l'.Perm l)(hu:uni k l):uni k l':=fun x hx=>hu x (hp.mem_iff.1 hx)
theorem mT{k:Nat}{l:Lqq}(hu:uni k l):uni k (aA l):=bJv (fG l) hu
theorem cQ(l:Lqq):(aA l).length=l.length:=(fG l).length_eq
end KV
end Go.Proofs
end
namespace Go.Proofs
namespace KV
section

abbrev dN(x:List Int):Int:=x.getD 0 0
abbrev dK(x:List Int):Int:=x.getD 1 0
abbrev dMi(x:List Int):Int:=x.getD 2 0
abbrev dB(x:List Int):Int:=x.getD 3 0
abbrev dMu(x:List Int):Int:=x.getD 4 0
abbrev dAb(x:List Int):Int:=x.getD 5 0
def jR(k:Int):Bool:=k == 4 || k == 7
def cY(k:Int):Bool:=k == 8 || k == 9

def bY(dc:Lqq)(n:Int):Lqq:=dc.reverse.filter fun x=>dAb x == n

structure DS where
 x:List Int
 cnt:Bool
 upd:Bool
 rul:Option (List Int)
 chg:Option (List Int)
 much:Int

def jI(t:List DS)(n:Int):List DS:=t.reverse.filter fun s=>dAb s.x == n
def uI(dl:Int)(x:List Int):Bool:=jR (dK x) && decide (dl<dMi x)
def wQ(x:List Int)(y:List Int):Bool:=dK y == 5 || (dK y == 7 && !cY (dK x))
def bJs(x:List Int)(s:DS):Bool:=wQ x s.x && s.cnt && (dK s.x == 5 || s.upd)
def mkS(dl:Int)(oc:List Int)(x:List Int)(t:List DS):DS :=
 ⟨x,!uI dl x && !((jI t (dN x)).any (bJs x)),
  match (jI t (dN x)).find? fun s=>cY (dK s.x) && s.cnt with
   | some s=>dK s.x == 8
   | none=>oc.contains (dN x),
  ((jI t (dN x)).find? fun s=>cY (dK s.x) && s.cnt).map (·.x),
  ((jI t (dN x)).find? fun s=>dK s.x == 6 && s.cnt).map (·.x),
  match (jI t (dN x)).find? fun s=>dK s.x == 6 && s.cnt with
   | some s=>s.much
   | none=>dMu x⟩
def fE(dl:Int)(oc:List Int):Lqq→List DS
 | []=>[]
 | x::r=>mkS dl oc x (fE dl oc r)::fE dl oc r

theorem aKe(dl:Int)(oc:List Int):∀ dc:Lqq,(fE dl oc dc).map (·.x)=dc
 | []=>rfl
 | x::r=>by rw [fE,gZ,aKe dl oc r];rfl
theorem bOz(dl:Int)(oc:List Int)(dc:Lqq)(n:Int):(jI (fE dl oc dc) n).map (·.x)=bY dc n:=by
 unfold jI bY
 conv=>rhs;rw [← aKe dl oc dc]
 rw [← List.map_reverse,List.filter_map];rfl

structure bZ (dc:Lqq):Prop where
 ud:uni 6 dc
 len:dc.length≤1000
 rng:∀ x∈dc,dcB x=true
 up:dc.Pairwise fun a b=>dN a<dN b
 ord:∀ x∈dc,orB x=true

theorem bZ.tail{x:List Int}{r:Lqq}(h:bZ (x::r)):bZ r :=
 ⟨fun y hy=>h.ud y (kQ6 _ hy),by have:=h.len;simp at this;omega,fun y hy=>h.rng y (kQ6 _ hy),(bHp.1 h.up).2,fun y hy=>h.ord y (kQ6 _ hy)⟩
theorem aSu{a r:Lqq}{x:List Int}(h:bZ (a++x::r)):bY (a++x::r) (dN x)=bY r (dN x):=by
 unfold bY;have e:a++x::r=(a++[x])++r:=by simp
 rw [e,List.reverse_append,lR];have:(a++[x]).reverse.filter (fun y=>dAb y == dN x)=[]:=by
  rw [List.filter_eq_nil_iff];intro y hy;have hy:y∈a++[x]:=aAk.1 hy;have hm:y∈a++x::r:=by rw [e];exact nZ _ hy
  have hx1:1≤dN x:=(kF.1 (h.rng x (by simp))).1.1
  have hle:dN y≤dN x:=by
   rcases jB.1 hy with hy | hy
   ·exact Int.le_of_lt ((List.pairwise_append.1 h.up).2.2 y hy x (by simp))
   ·simp at hy;rw [hy];exact aNk _
  have ho:=h.ord y hm;unfold orB at ho
  simp only [beq_iff_eq];show ¬ y.getD 5 0=x.getD 0 0
  split at ho
  ·have:y.getD 5 0=0:=by simpa using ho
   unfold dN at hx1;omega
  ·have:=cH.1 ho
   unfold dN at hle;omega
 rw [this,List.append_nil]

def zT(L:List (Int × Lqq))(k:Int):Lqq:=match L.find? fun e=>e.1 == k with
 | some e=>e.2
 | none=>[]
def aFt(L:List (Int × Lqq))(k:Int)(v:Lqq):List (Int × Lqq):=if L.any (fun e=>e.1 == k) then L.map (fun e=>if e.1 == k then (k,v) else e) else L++[(k,v)]
def jJ(L:List (Int × Lqq))(x:List Int):List (Int × Lqq):=if 0<dAb x then aFt L (dAb x) (zT L (dAb x)++[x]) else L
def abM(dc:Lqq):List (Int × Lqq):=dc.reverse.foldl jJ []

structure aNy (q:Lqq) (L:List (Int × Lqq)):Prop where
 nd:(L.map (·.1)).Nodup
 mem:∀ e∈L,0<e.1∧e.2≠[]∧e.2=q.filter fun x=>dAb x == e.1
 all:∀ x∈q,0<dAb x→dAb x∈L.map (·.1)
theorem aNy.look{q:Lqq}{L:List (Int × Lqq)}(h:aNy q L){n:Int}(hn:0<n):zT L n=q.filter fun x=>dAb x == n:=by
 unfold zT;cases hf:L.find? fun e=>e.1 == n with
 | some e =>
  have h1:=tQ hf;have h2:e.1=n:=by simpa using aNj hf
  rw [← h2];exact (h.mem e h1).2.2
 | none =>
  symm;rw [List.filter_eq_nil_iff];intro x hx he;have he:dAb x=n:=by simpa using he
  obtain ⟨e,h1,h2⟩:=kQ9.1 (h.all x hx (by omega))
  have:=xT.1 hf e h1;exact this (by rw [h2,he];exact beq_self_eq_true n)
theorem bJt{L:List (Int × Lqq)}{k:Int}{v:Lqq}{e:Int × Lqq}(h:e∈aFt L k v):e=(k,v)∨(e∈L∧e.1≠k):=by
 unfold aFt at h
 split at h
 ·obtain ⟨z,hz,rfl⟩:=kQ9.1 h
  by_cases hk:z.1=k
  ·left;simp [hk]
  ·right;simp [hk,hz]
 ·rename_i hn
  rcases jB.1 h with h | h
  ·right
   refine ⟨h,fun hk=>hn (List.any_eq_true.2 ⟨e,h,by simpa using hk⟩)⟩
  ·left;simpa using h
theorem bCo{L:List (Int × Lqq)}{k:Int}{v:Lqq}:(k∈L.map (·.1)∧(aFt L k v).map (·.1)=L.map (·.1))∨(k∉L.map (·.1)∧(aFt L k v).map (·.1)=L.map (·.1)++[k]):=by
 unfold aFt
 by_cases h:L.any (fun e=>e.1 == k)=true
 ·left
  rw [if_pos h];refine ⟨?_,?_⟩
  ·obtain ⟨e,h1,h2⟩:=List.any_eq_true.1 h
   exact kQ9.2 ⟨e,h1,by simpa using h2⟩
  ·rw [tS]
   refine aAj fun e _ => ?_
   by_cases hk:e.1=k
   ·simp [hk]
   ·simp [hk]
 ·right
  rw [if_neg h];refine ⟨fun hm=>h ?_,by simp⟩
  obtain ⟨e,h1,h2⟩:=kQ9.1 hm;exact List.any_eq_true.2 ⟨e,h1,by simpa using h2⟩
theorem aNy.step{q:Lqq}{L:List (Int × Lqq)}(h:aNy q L)(x:List Int)(hx:0≤dAb x):aNy (q++[x]) (jJ L x):=by
 unfold jJ
 by_cases hp:0<dAb x
 ·rw [if_pos hp]
  have hk:=bCo (L:=L) (k:=dAb x) (v:=zT L (dAb x)++[x]);refine ⟨?_,fun e he => ?_,fun y hy h0 => ?_⟩
  ·rcases hk with ⟨_,hk⟩ | ⟨hn,hk⟩
   ·rw [hk];exact h.nd
   ·rw [hk,List.nodup_append]
    exact ⟨h.nd,by simp,fun a ha b hb he=>hn (by rw [← List.mem_singleton.1 hb,← he];exact ha)⟩
  ·rcases bJt he with rfl | ⟨h1,h2⟩
   ·refine ⟨hp,by simp,?_⟩
    dsimp only;rw [h.look hp,lR];simp
   ·obtain ⟨q1,q2,q3⟩:=h.mem e h1
    refine ⟨q1,q2,?_⟩;rw [lR,← q3];have:[x].filter (fun y=>dAb y == e.1)=[]:=by
     rw [List.filter_eq_nil_iff];intro y hy;simp at hy
     subst hy;simpa using fun he=>h2 he.symm
    rw [this,List.append_nil]
  ·have:dAb y=dAb x∨dAb y∈L.map (·.1):=by
    rcases jB.1 hy with hy | hy
    ·exact .inr (h.all y hy h0)
    ·simp at hy;left;rw [hy]
   rcases hk with ⟨hm,hk⟩ | ⟨hn,hk⟩
   ·rw [hk]
    rcases this with h1 | h1
    ·rw [h1];exact hm
    ·exact h1
   ·rw [hk]
    rcases this with h1 | h1
    ·rw [h1];simp
    ·exact nZ _ h1
 ·rw [if_neg hp]
  have h0:dAb x=0:=by omega
  refine ⟨h.nd,fun e he => ?_,fun y hy h1 => ?_⟩
  ·obtain ⟨q1,q2,q3⟩:=h.mem e he
   refine ⟨q1,q2,?_⟩;rw [lR,← q3];have:[x].filter (fun y=>dAb y == e.1)=[]:=by
    rw [List.filter_eq_nil_iff];intro y hy;simp at hy
    subst hy;simp only [beq_iff_eq];omega
   rw [this,List.append_nil]
  ·rcases jB.1 hy with hy | hy
   ·exact h.all y hy h1
   ·simp at hy;rw [hy] at h1;omega
theorem yF:∀ (p q:Lqq) (L:List (Int × Lqq)),aNy q L→(∀ x∈p,0≤dAb x)→aNy (q++p) (p.foldl jJ L)
 | [],q,L,h,_=>by simpa using h
 | x::p,q,L,h,hp=>by
  have:=yF p (q++[x]) (jJ L x) (h.step x (hp x (gY ..))) (fun y hy=>hp y (kQ6 _ hy))
  simpa using this
theorem mS{dc:Lqq}(h:bZ dc):∀ x∈dc,0≤dAb x∧dAb x≤9998:=fun x hx=>by
 have h1:=kF.1 (h.rng x hx);have ho:=h.ord x hx;unfold orB at ho
 show 0≤x.getD 5 0∧x.getD 5 0≤9998
 split at ho
 ·have:x.getD 5 0=0:=by simpa using ho
  omega
 ·have:=cH.1 ho;omega
theorem aSv{dc:Lqq}(h:bZ dc):aNy dc.reverse (abM dc):=by
 have:=yF dc.reverse [] [] ⟨by simp,fun e he=>(by cases he),fun x hx=>(by cases hx)⟩ (fun x hx=>(mS h x (by simpa using hx)).1)
 simpa [abM] using this
theorem bJu{dc:Lqq}(h:bZ dc){n:Int}(hn:0<n):zT (abM dc) n=bY dc n:=(aSv h).look hn
end
section

def stF(dl:Int)(oc:List Int)(dc:Lqq)(x:List Int):DS:=((fE dl oc dc).find? fun s=>s.x == x).getD (mkS dl oc x [])
def dY(dl:Int)(oc:List Int)(dc:Lqq)(x:List Int):Bool:=(stF dl oc dc x).cnt
def aFs(dl:Int)(oc:List Int)(dc:Lqq)(x:List Int):Bool:=(stF dl oc dc x).upd
def vG(dl:Int)(oc:List Int)(dc:Lqq)(x:List Int):Option (List Int):=(stF dl oc dc x).rul
def aKd(dl:Int)(oc:List Int)(dc:Lqq)(x:List Int):Option (List Int):=(stF dl oc dc x).chg
def pH(dl:Int)(oc:List Int)(dc:Lqq)(x:List Int):Int:=(stF dl oc dc x).much

theorem aNw{a r:Lqq}{x:List Int}(h:bZ (a++x::r)){y:List Int}(hy:y∈a):dN y<dN x:=(List.pairwise_append.1 h.up).2.2 y hy x (by simp)
theorem aNx(dl:Int)(oc:List Int){x:List Int}{r:Lqq}:∀ (a:Lqq),bZ (a++x::r)→(fE dl oc (a++x::r)).find? (fun s=>s.x == x)=some (mkS dl oc x (fE dl oc r))
 | [],h=>by
  simp only [List.nil_append,fE];rw [List.find?_cons_of_pos];show (mkS dl oc x (fE dl oc r)).x == x;exact beq_self_eq_true x
 | y::a,h=>by
  simp only [List.cons_append,fE];rw [List.find?_cons_of_neg,aNx dl oc a h.tail];show ¬ ((mkS dl oc y (fE dl oc (a++x::r))).x == x)=true;have h1:=aNw h (y:=y) (by simp)
  intro he;have:y=x:=by simpa [mkS] using he
  rw [this] at h1;omega
theorem aDx{dl:Int}{oc:List Int}{a r:Lqq}{x:List Int}(h:bZ (a++x::r)):stF dl oc (a++x::r) x=mkS dl oc x (fE dl oc r):=by
 unfold stF;rw [aNx dl oc a h];rfl
theorem aWg(dl:Int)(oc:List Int)(r:Lqq):∀ a:Lqq,∃ l,fE dl oc (a++r)=l++fE dl oc r
 | []=>⟨[],rfl⟩
 | y::a=>by
  obtain ⟨l,h⟩:=aWg dl oc r a;exact ⟨mkS dl oc y (fE dl oc (a++r))::l,by simp [fE,h]⟩
theorem aWh{dl:Int}{oc:List Int}{s:DS}:∀ {dc:Lqq},s∈fE dl oc dc→∃ a r,dc=a++s.x::r∧s=mkS dl oc s.x (fE dl oc r)
 | [],h=>by simp [fE] at h
 | y::q,h=>by
  simp only [fE,jH] at h
  rcases h with rfl | h
  ·exact ⟨[],q,rfl,rfl⟩
  ·obtain ⟨a,r,h1,h2⟩:=aWh h
   exact ⟨y::a,r,by rw [h1];rfl,h2⟩
theorem bCn{dl:Int}{oc:List Int}{dc:Lqq}{s:DS}(h:bZ dc)(hs:s∈fE dl oc dc):stF dl oc dc s.x=s:=by
 obtain ⟨a,r,h1,h2⟩:=aWh hs;subst h1;rw [aDx h,← h2]
theorem aSt{dl:Int}{oc:List Int}{dc:Lqq}{x:List Int}(h:bZ dc)(hx:x∈dc):(stF dl oc dc x).x=x:=by
 obtain ⟨a,r,rfl⟩:=List.append_of_mem hx;rw [aDx h];rfl
theorem sG{dl:Int}{oc:List Int}{a r:Lqq}{x:List Int}(h:bZ (a++x::r)):jI (fE dl oc r) (dN x)=(bY (a++x::r) (dN x)).map (stF dl oc (a++x::r)):=by
 rw [aSu h,← bOz dl oc r (dN x),tS]
 conv=>lhs;rw [← List.map_id (jI (fE dl oc r) (dN x))]
 refine aAj fun s hs => ?_
 have hs:s∈fE dl oc r:=by
  unfold jI at hs
  exact aAk.1 (nA.1 hs).1
 have e:a++x::r=(a++[x])++r:=by simp
 have:s∈fE dl oc (a++x::r):=by
  obtain ⟨l,hl⟩:=aWg dl oc r (a++[x]);rw [e,hl];exact aDf _ hs
 exact (bCn h this).symm

theorem eP{dc:Lqq}{n:Int}{y:List Int}(h:y∈bY dc n):y∈dc∧dAb y=n:=by
 unfold bY at h
 obtain ⟨h1,h2⟩:=nA.1 h;exact ⟨aAk.1 h1,by simpa using h2⟩
section
variable {dl:Int} {oc:List Int} {dc:Lqq} {x:List Int}
theorem bVt(h:bZ dc)(l:Lqq)(hl:∀ y∈l,y∈dc)(f:DS→Bool)(g:List Int→Bool)(hfg:∀ y∈dc,f (stF dl oc dc y)=g y):(l.map (stF dl oc dc)).any f=l.any g:=by
 rw [List.any_map]
 induction l with
 | nil=>rfl
 | cons y l ih =>
  rw [List.any_cons,List.any_cons,ih fun z hz=>hl z (kQ6 _ hz)]
  rw [Function.comp,hfg y (hl y (gY ..))]
theorem aBd(h:bZ dc)(l:Lqq)(hl:∀ y∈l,y∈dc)(f:DS→Bool)(g:List Int→Bool)(hfg:∀ y∈dc,f (stF dl oc dc y)=g y):(l.map (stF dl oc dc)).find? f=(l.find? g).map (stF dl oc dc):=by
 induction l with
 | nil=>rfl
 | cons y l ih =>
  rw [gZ,List.find?_cons,List.find?_cons,hfg y (hl y (gY ..)),ih fun z hz=>hl z (kQ6 _ hz)]
  cases g y <;> rfl
theorem bVu(h:bZ dc)(hx:x∈dc):dY dl oc dc x=(!uI dl x && !((bY dc (dN x)).any fun y=>wQ x y && dY dl oc dc y && (dK y == 5 || aFs dl oc dc y))):=by
 obtain ⟨a,r,rfl⟩:=List.append_of_mem hx;unfold dY;rw [aDx h];simp only [mkS];rw [sG h,bVt (dl:=dl) (oc:=oc) h _ (fun y hy=>(eP hy).1) (bJs x) (fun y=>wQ x y && dY dl oc (a++x::r) y && (dK y == 5 || aFs dl oc (a++x::r) y)) (fun y hy => ?_)]
 ·rfl
 ·unfold bJs dY aFs
  rw [aSt h hy]
theorem uH{l:Lqq}{g:List Int→Bool}{y:List Int}(h:l.find? g=some y):y∈l:=tQ h
theorem aDy(h:bZ dc)(l:Lqq)(hl:∀ y∈l,y∈dc)(g:List Int→Bool):((l.find? g).map (stF dl oc dc)).map (·.x)=l.find? g:=by
 cases hf:l.find? g with
 | none=>rfl
 | some y=>simp only [Option.map_some];rw [aSt h (hl y (uH hf))]
theorem aDz(h:bZ dc)(hx:x∈dc):vG dl oc dc x=(bY dc (dN x)).find? fun y=>cY (dK y) && dY dl oc dc y:=by
 obtain ⟨a,r,rfl⟩:=List.append_of_mem hx;unfold vG;rw [aDx h];simp only [mkS];rw [sG h,aBd (dl:=dl) (oc:=oc) h _ (fun y hy=>(eP hy).1) _ (fun y=>cY (dK y) && dY dl oc (a++x::r) y) (fun y hy => ?_),aDy h _ (fun y hy=>(eP hy).1)]
 unfold dY;rw [aSt h hy]
theorem bVv(h:bZ dc)(hx:x∈dc):aFs dl oc dc x=match vG dl oc dc x with | some y=>dK y == 8 | none=>oc.contains (dN x):=by
 rw [aDz h hx];obtain ⟨a,r,rfl⟩:=List.append_of_mem hx;unfold aFs;rw [aDx h];simp only [mkS];rw [sG h,aBd (dl:=dl) (oc:=oc) h _ (fun y hy=>(eP hy).1) _ (fun y=>cY (dK y) && dY dl oc (a++x::r) y) (fun y hy => ?_)]
 ·cases hf:(bY (a++x::r) (dN x)).find? fun y=>cY (dK y) && dY dl oc (a++x::r) y with
  | none=>rfl
  | some y=>simp only [Option.map_some];rw [aSt h (eP (uH hf)).1]
 ·unfold dY;rw [aSt h hy]
theorem aEa(h:bZ dc)(hx:x∈dc):aKd dl oc dc x=(bY dc (dN x)).find? fun y=>dK y == 6 && dY dl oc dc y:=by
 obtain ⟨a,r,rfl⟩:=List.append_of_mem hx;unfold aKd;rw [aDx h];simp only [mkS];rw [sG h,aBd (dl:=dl) (oc:=oc) h _ (fun y hy=>(eP hy).1) _ (fun y=>dK y == 6 && dY dl oc (a++x::r) y) (fun y hy => ?_),aDy h _ (fun y hy=>(eP hy).1)]
 unfold dY;rw [aSt h hy]
theorem aWi(h:bZ dc)(hx:x∈dc):pH dl oc dc x=match aKd dl oc dc x with | some y=>pH dl oc dc y | none=>dMu x:=by
 rw [aEa h hx];obtain ⟨a,r,rfl⟩:=List.append_of_mem hx;unfold pH;rw [aDx h];simp only [mkS];rw [sG h,aBd (dl:=dl) (oc:=oc) h _ (fun y hy=>(eP hy).1) _ (fun y=>dK y == 6 && dY dl oc (a++x::r) y) (fun y hy => ?_)]
 ·cases hf:(bY (a++x::r) (dN x)).find? fun y=>dK y == 6 && dY dl oc (a++x::r) y with
  | none=>rfl
  | some y=>rfl
 ·unfold dY;rw [aSt h hy]
theorem bJr(h:bZ dc){y:List Int}(hy:y∈dc){n:Int}(hn:dAb y=n)(h1:1≤n):n<dN y:=by
 have ho:=h.ord y hy;unfold orB at ho
 split at ho
 ·have:y.getD 5 0=0:=by simpa using ho
  rw [show y.getD 5 0=dAb y from rfl] at this;omega
 ·have:=cH.1 ho
  rw [show y.getD 5 0=dAb y from rfl] at this
  rw [show y.getD 0 0=dN y from rfl] at this
  omega
end
end
end KV
end Go.Proofs
section
namespace Go.Proofs
open Go.Shelf
def Tryz.sortSk_ren:Go.Shelf.Ren:=⟨fun | 6=>114 | 15=>131 | 14=>167 | 28=>180 | 29=>181 | 20=>191 | 21=>192 | 22=>193 | 23=>194 | 24=>195 | 25=>196 | 26=>197 | 27=>198 | 46=>218 | 47=>208 | 48=>209 | 49=>219 | 50=>220 | 57=>226 | n=>n,fun | 22=>23 | 24=>31 | 25=>157 | 3=>3 | 39=>172 | 0=>0 | 53=>127 | 55=>225 | 4=>4 | 46=>218 | 45=>217 | 50=>106 | 5=>5 | 9=>9 | 66=>245 | 70=>249 | 76=>257 | 77=>198 | n=>n,fun | n=>n⟩
theorem Tryz.sortSk:Go.Proofs.SlLaysF0.n6 Tryz.prog Tryz.sortSk_ren:={
 mixed:=by kernel_rfl
 f6:=⟨Tryz.f114.name,by decide,Tryz.func114.trans (congrArg some (by kernel_rfl))⟩
 f14:=⟨Tryz.f167.name,by decide,Tryz.func167.trans (congrArg some (by kernel_rfl))⟩
 f15:=Tryz.func131.trans (congrArg some (by kernel_rfl))
 f20:=⟨Tryz.f191.name,by decide,Tryz.func191.trans (congrArg some (by kernel_rfl))⟩
 f21:=⟨Tryz.f192.name,by decide,Tryz.func192.trans (congrArg some (by kernel_rfl))⟩
 f22:=⟨Tryz.f193.name,by decide,Tryz.func193.trans (congrArg some (by kernel_rfl))⟩
 f23:=⟨Tryz.f194.name,by decide,Tryz.func194.trans (congrArg some (by kernel_rfl))⟩
 f24:=⟨Tryz.f195.name,by decide,Tryz.func195.trans (congrArg some (by kernel_rfl))⟩
 f25:=⟨Tryz.f196.name,by decide,Tryz.func196.trans (congrArg some (by kernel_rfl))⟩
 f26:=⟨Tryz.f197.name,by decide,Tryz.func197.trans (congrArg some (by kernel_rfl))⟩
 f27:=⟨Tryz.f198.name,by decide,Tryz.func198.trans (congrArg some (by kernel_rfl))⟩
 f28:=Tryz.func180.trans (congrArg some (by kernel_rfl))
 f29:=Tryz.func181.trans (congrArg some (by kernel_rfl))
 f46:=⟨Tryz.f218.name,by decide,Tryz.func218.trans (congrArg some (by kernel_rfl))⟩
 f47:=Tryz.func208.trans (congrArg some (by kernel_rfl))
 f48:=Tryz.func209.trans (congrArg some (by kernel_rfl))
 f49:=⟨Tryz.f219.name,by decide,Tryz.func219.trans (congrArg some (by kernel_rfl))⟩
 f50:=⟨Tryz.f220.name,by decide,Tryz.func220.trans (congrArg some (by kernel_rfl))⟩
 f57:=⟨Tryz.f226.name,by decide,Tryz.func226.trans (congrArg some (by kernel_rfl))⟩
 t0:=Tryz.underlying0
 a0:=Tryz.isAgg0
 z0:=Tryz.sizeOf0
 v0:=Tryz.zeroValue0
 t3:=Tryz.underlying3
 a3:=Tryz.isAgg3
 z3:=Tryz.sizeOf3
 v3:=Tryz.zeroValue3
 t4:=Tryz.underlying4
 a4:=Tryz.isAgg4
 z4:=Tryz.sizeOf4
 v4:=Tryz.zeroValue4
 t5:=Tryz.underlying5
 a5:=Tryz.isAgg5
 z5:=Tryz.sizeOf5
 v5:=Tryz.zeroValue5
 t9:=Tryz.underlying9
 a9:=Tryz.isAgg9
 z9:=Tryz.sizeOf9
 v9:=Tryz.zeroValue9
 t22:=Tryz.underlying23
 a22:=Tryz.isAgg23
 z22:=Tryz.sizeOf23
 v22:=Tryz.zeroValue23
 t25:=Tryz.underlying157
 a25:=Tryz.isAgg157
 z25:=Tryz.sizeOf157
 v25:=Tryz.zeroValue157
 t39:=Tryz.underlying172
 a39:=Tryz.isAgg172
 z39:=Tryz.sizeOf172
 v39:=Tryz.zeroValue172
 t45:=Tryz.underlying217
 a45:=Tryz.isAgg217
 z45:=Tryz.sizeOf217
 v45:=Tryz.zeroValue217
 t46:=Tryz.underlying218
 a46:=Tryz.isAgg218
 z46:=Tryz.sizeOf218
 v46:=Tryz.zeroValue218
 t50:=Tryz.underlying106
 a50:=Tryz.isAgg106
 z50:=Tryz.sizeOf106
 v50:=Tryz.zeroValue106
 t53:=Tryz.underlying127
 a53:=Tryz.isAgg127
 z53:=Tryz.sizeOf127
 v53:=Tryz.zeroValue127
 t55:=Tryz.underlying225
 a55:=Tryz.isAgg225
 z55:=Tryz.sizeOf225
 v55:=Tryz.zeroValue225
 t66:=Tryz.underlying245
 a66:=Tryz.isAgg245
 z66:=Tryz.sizeOf245
 v66:=Tryz.zeroValue245
 t70:=Tryz.underlying249
 a70:=Tryz.isAgg249
 z70:=Tryz.sizeOf249
 v70:=Tryz.zeroValue249
 t76:=Tryz.underlying257
 a76:=Tryz.isAgg257
 z76:=Tryz.sizeOf257
 v76:=Tryz.zeroValue257
 t77:=Tryz.underlying198
 a77:=Tryz.isAgg198
 z77:=Tryz.sizeOf198
 v77:=Tryz.zeroValue198 }
def Tryz.sortDc_ren:Go.Shelf.Ren:=⟨fun | 6=>117 | 15=>131 | 14=>169 | 28=>180 | 29=>181 | 20=>199 | 21=>200 | 22=>201 | 23=>202 | 24=>203 | 25=>204 | 26=>205 | 27=>206 | 46=>221 | 47=>208 | 48=>209 | 49=>222 | 50=>223 | 57=>227 | n=>n,fun | 22=>24 | 24=>44 | 25=>159 | 3=>3 | 39=>172 | 0=>0 | 53=>127 | 55=>225 | 4=>4 | 46=>218 | 45=>217 | 50=>106 | 5=>5 | 9=>9 | 66=>245 | 70=>249 | 76=>257 | 77=>198 | n=>n,fun | n=>n⟩
theorem Tryz.sortDc:Go.Proofs.SlLaysF0.n6 Tryz.prog Tryz.sortDc_ren:={
 mixed:=by kernel_rfl
 f6:=⟨Tryz.f117.name,by decide,Tryz.func117.trans (congrArg some (by kernel_rfl))⟩
 f14:=⟨Tryz.f169.name,by decide,Tryz.func169.trans (congrArg some (by kernel_rfl))⟩
 f15:=Tryz.func131.trans (congrArg some (by kernel_rfl))
 f20:=⟨Tryz.f199.name,by decide,Tryz.func199.trans (congrArg some (by kernel_rfl))⟩
 f21:=⟨Tryz.f200.name,by decide,Tryz.func200.trans (congrArg some (by kernel_rfl))⟩
 f22:=⟨Tryz.f201.name,by decide,Tryz.func201.trans (congrArg some (by kernel_rfl))⟩
 f23:=⟨Tryz.f202.name,by decide,Tryz.func202.trans (congrArg some (by kernel_rfl))⟩
 f24:=⟨Tryz.f203.name,by decide,Tryz.func203.trans (congrArg some (by kernel_rfl))⟩
 f25:=⟨Tryz.f204.name,by decide,Tryz.func204.trans (congrArg some (by kernel_rfl))⟩
 f26:=⟨Tryz.f205.name,by decide,Tryz.func205.trans (congrArg some (by kernel_rfl))⟩
 f27:=⟨Tryz.f206.name,by decide,Tryz.func206.trans (congrArg some (by kernel_rfl))⟩
 f28:=Tryz.func180.trans (congrArg some (by kernel_rfl))
 f29:=Tryz.func181.trans (congrArg some (by kernel_rfl))
 f46:=⟨Tryz.f221.name,by decide,Tryz.func221.trans (congrArg some (by kernel_rfl))⟩
 f47:=Tryz.func208.trans (congrArg some (by kernel_rfl))
 f48:=Tryz.func209.trans (congrArg some (by kernel_rfl))
 f49:=⟨Tryz.f222.name,by decide,Tryz.func222.trans (congrArg some (by kernel_rfl))⟩
 f50:=⟨Tryz.f223.name,by decide,Tryz.func223.trans (congrArg some (by kernel_rfl))⟩
 f57:=⟨Tryz.f227.name,by decide,Tryz.func227.trans (congrArg some (by kernel_rfl))⟩
 t0:=Tryz.underlying0
 a0:=Tryz.isAgg0
 z0:=Tryz.sizeOf0
 v0:=Tryz.zeroValue0
 t3:=Tryz.underlying3
 a3:=Tryz.isAgg3
 z3:=Tryz.sizeOf3
 v3:=Tryz.zeroValue3
 t4:=Tryz.underlying4
 a4:=Tryz.isAgg4
 z4:=Tryz.sizeOf4
 v4:=Tryz.zeroValue4
 t5:=Tryz.underlying5
 a5:=Tryz.isAgg5
 z5:=Tryz.sizeOf5
 v5:=Tryz.zeroValue5
 t9:=Tryz.underlying9
 a9:=Tryz.isAgg9
 z9:=Tryz.sizeOf9
 v9:=Tryz.zeroValue9
 t22:=Tryz.underlying24
 a22:=Tryz.isAgg24
 z22:=Tryz.sizeOf24
 v22:=Tryz.zeroValue24
 t25:=Tryz.underlying159
 a25:=Tryz.isAgg159
 z25:=Tryz.sizeOf159
 v25:=Tryz.zeroValue159
 t39:=Tryz.underlying172
 a39:=Tryz.isAgg172
 z39:=Tryz.sizeOf172
 v39:=Tryz.zeroValue172
 t45:=Tryz.underlying217
 a45:=Tryz.isAgg217
 z45:=Tryz.sizeOf217
 v45:=Tryz.zeroValue217
 t46:=Tryz.underlying218
 a46:=Tryz.isAgg218
 z46:=Tryz.sizeOf218
 v46:=Tryz.zeroValue218
 t50:=Tryz.underlying106
 a50:=Tryz.isAgg106
 z50:=Tryz.sizeOf106
 v50:=Tryz.zeroValue106
 t53:=Tryz.underlying127
 a53:=Tryz.isAgg127
 z53:=Tryz.sizeOf127
 v53:=Tryz.zeroValue127
 t55:=Tryz.underlying225
 a55:=Tryz.isAgg225
 z55:=Tryz.sizeOf225
 v55:=Tryz.zeroValue225
 t66:=Tryz.underlying245
 a66:=Tryz.isAgg245
 z66:=Tryz.sizeOf245
 v66:=Tryz.zeroValue245
 t70:=Tryz.underlying249
 a70:=Tryz.isAgg249
 z70:=Tryz.sizeOf249
 v70:=Tryz.zeroValue249
 t76:=Tryz.underlying257
 a76:=Tryz.isAgg257
 z76:=Tryz.sizeOf257
 v76:=Tryz.zeroValue257
 t77:=Tryz.underlying198
 a77:=Tryz.isAgg198
 z77:=Tryz.sizeOf198
 v77:=Tryz.zeroValue198 }
def Tryz.cmpInt_ren:Go.Shelf.Ren:=⟨fun | 5=>116 | 7=>168 | n=>n,fun | 22=>3 | 3=>3 | 4=>4 | n=>n,fun | n=>n⟩
theorem Tryz.cmpInt:Go.Proofs.SlLaysC2.n5 Tryz.prog Tryz.cmpInt_ren:={
 mixed:=by kernel_rfl
 f5:=⟨Tryz.f116.name,by decide,Tryz.func116.trans (congrArg some (by kernel_rfl))⟩
 f7:=⟨Tryz.f168.name,by decide,Tryz.func168.trans (congrArg some (by kernel_rfl))⟩
 t3:=Tryz.underlying3
 a3:=Tryz.isAgg3
 z3:=Tryz.sizeOf3
 v3:=Tryz.zeroValue3
 t4:=Tryz.underlying4
 a4:=Tryz.isAgg4
 z4:=Tryz.sizeOf4
 v4:=Tryz.zeroValue4
 t22:=Tryz.underlying3
 a22:=Tryz.isAgg3
 z22:=Tryz.sizeOf3
 v22:=Tryz.zeroValue3 }
end Go.Proofs
end
section
namespace Go.Proofs
open Go.RowKit Go.Lib Go.Sort Go.Shelf
namespace KV

set_option maxHeartbeats 1000000 in
theorem cBd(a b c d:Int)(W:World):Calls Tp 115 #[.agg #[.int .i64 a,.int .i64 b],.agg #[.int .i64 c,.int .i64 d]] W fun e w'=>e = .returned (.int .i64 (Lib.compareInt a c))∧∃ q os',w'=grow (W.drewN q) os':=by
 have hcon:=fun W'=>AnyG.cmp_Compare_int Tryz.cmpInt a c W'
 change ∀ W',Calls Tp 116 _ _ _ at hcon
 generalize Lib.compareInt a c=r at hcon ⊢
 go_enter Tryz.func115,Tryz.ntmps115
 go_wp2_with (go_at_call 116;refine (hcon _).mono ?_;rintro e w' ⟨rfl,rfl⟩)
 go_ret
 exact ⟨rfl,0,_,by rw [alloc_eq_grow,alloc_eq_grow,grow_grow];rfl⟩
set_option maxHeartbeats 1000000 in
theorem cBe(a b c d e f a' b' c' d' e' f':Int)(W:World):Calls Tp 118 #[.agg #[.int .i64 a,.int .i64 b,.int .i64 c,.int .i64 d,.int .i64 e,.int .i64 f],.agg #[.int .i64 a',.int .i64 b',.int .i64 c',.int .i64 d',.int .i64 e',.int .i64 f']] W fun z w'=>z = .returned (.int .i64 (Lib.compareInt a a'))∧∃ q os',w'=grow (W.drewN q) os':=by
 have hcon:=fun W'=>AnyG.cmp_Compare_int Tryz.cmpInt a a' W'
 change ∀ W',Calls Tp 116 _ _ _ at hcon
 generalize Lib.compareInt a a'=r at hcon ⊢
 go_enter Tryz.func118,Tryz.ntmps118
 go_wp2_with (go_at_call 116;refine (hcon _).mono ?_;rintro e w' ⟨rfl,rfl⟩)
 go_ret
 exact ⟨rfl,0,_,by rw [alloc_eq_grow,alloc_eq_grow,grow_grow];rfl⟩

theorem wY{C:Cx}{M:Mem}{w:World}{x:AV}{us:List Value}(h:dD C M w [x] us):∃ u,us=[u]∧Rep C M w x u:=by
 cases h with | cons _ u _ _ h hr=>cases hr;exact ⟨u,rfl,h⟩
theorem bKp{C:Cx}{M:Mem}{w:World}{x y:AV}{us:List Value}(h:dD C M w [x,y] us):∃ u v,us=[u,v]∧Rep C M w x u∧Rep C M w y v:=by
 cases h with | cons _ u _ _ h hr=>obtain ⟨v,rfl,h2⟩:=wY hr;exact ⟨u,v,rfl,h,h2⟩
theorem bXr{C:Cx}{M:Mem}{w:World}{f:Nat}{u:Value}(h:Rep C M w (.fn f [] []) u):u = .func (.func f) #[] #[]:=by
 cases h with
 | fn _ _ _ us vs h1 h2 h3 h4 =>
  have e1:us = #[]:=Array.eq_empty_of_size_eq_zero h1;have e2:vs = #[]:=Array.eq_empty_of_size_eq_zero h2;subst e1;subst e2;rfl

theorem aHv{k:Nat}{l:Lqq}(hu:uni k l){j:Nat}(hj:j<(l.flatten.map aB).length):(l.flatten.map aB)[j] = .v ((nI k (l.toArray)[j / k]!)[j % k]!):=by
 have hL:(l.flatten).length=l.length*k:=pZ hu;have hj':j<l.length*k:=by rw [eR,hL] at hj;exact hj
 have hk:0<k:=by
  rcases Nat.eq_zero_or_pos k with h | h
  ·subst h;simp at hj'
  ·exact h
 have hq:j / k<l.length:=Nat.div_lt_of_lt_mul (by rw [bHs];exact hj')
 have hm:j % k<k:=aZe _ hk;have hx:l[j / k]? = some l[j / k]:=kQ0 hq;have hxl:l[j / k].length=k:=hu _ (gS hq);have hf:l[j / k][j % k]? = some l[j / k][j % k]:=kQ0 (by omega)
 have:=kB hu hx hf;have e:j / k*k+j % k=j:=by rw [bHs];exact Nat.div_add_mod j k
 rw [e,kQ0 hj] at this
 rw [Option.some.inj this];have e2:(l.toArray)[j / k]! = l[j / k]:=by simp [hq]
 rw [e2];unfold nI;simp only [List.getElem!_eq_getElem?_getD,jA,aRf hm,Option.map_some,Option.getD_some,kQ4,hf]

theorem aOi{f g ty k:Nat}(hsz:∃ i,Tryz.prog.info? ty=some i∧i.size=k)(hk:0<k)
  (hcall:∀ (blk cap:Nat) (d:Array (List Int)) (w:World),HoldsK (nI k) k w blk 0 d→blk<w.heap.size→d.size<4611686018427387904→Calls Tp f #[.slice (some ⟨blk,0,none⟩) d.size cap,.func (.func g) #[] #[]] w fun e w' =>
   e = .returned (.tuple #[])∧∃ d' n os,PermIn 0 d.size d d'∧SortedIn (ltOf cfL) 0 d.size d'∧w'=sortWorldK (nI k) k w blk 0 n d' os)
  (hnil:∀ (p:Option Addr) (cap:Nat) (fv:Value) (w:World),Calls Tp f #[.slice p 0 cap,fv] w fun e w'=>e = .returned (.tuple #[])∧w'=w)
  (l:Lqq) (hu:uni k l) (hn:(aP l 0).Nodup) (hl:l.length≤1000) :
  FMM Tp f [.own 0,.fn g [] []] [some (.row ty l.length (l.flatten.map aB))] (.tup []) [some (.row ty (aA l).length ((aA l).flatten.map aB))]:=fun C w us hus hM n=>by
 obtain ⟨u,v,rfl,hu0,hv⟩:=bKp hus;obtain rfl:=bXr hv;rw [cQ];have hown:(C.ι 0=none∧u = .slice none 0 0∧l.length=0)∨∃ b,C.ι 0=some b∧u = .slice (some ⟨b,0,none⟩) l.length (C.κ 0):=by
  cases hu0 with
  | own _ _ h0 ha hr =>
   rcases hr _ _ _ rfl with ⟨q1,q2,q3⟩ | ⟨b,q1,q2⟩
   ·exact .inl ⟨q2,q1,q3⟩
   ·exact .inr ⟨b,q2,q1⟩
 rcases hown with ⟨hι,rfl,h0⟩ | ⟨b,hι,rfl⟩
 ·obtain rfl:l=[]:=aDe h0
  refine (callsIn_wide.2 (hnil none 0 _ w)).mono ?_;rintro e w' ⟨rfl,rfl⟩;have e0:aA []=[]:=by simp [aA]
  rw [e0];exact ⟨_,rfl,C,Fr.refl _ _ _,hM,.tup [] #[] rfl (fun i h=>by simp at h)⟩
 ·rcases hM.row 0 _ _ _ rfl with ⟨hn',_⟩ | ⟨b',arr,i,q1,q2,q3,q4,q5,q6,q7,q8,q9⟩
  ·rw [hι] at hn';cases hn'
  ·rw [hι] at q1;cases q1
   obtain ⟨i',hi',hs'⟩:=hsz;rw [q3] at hi';cases hi'
   have hcell:∀ j (hj:j<(l.flatten.map aB).length),arr.getD j undef=(nI k (l.toArray)[j / k]!)[j % k]! := fun j hj=>by
    have:=q8 j hj;rw [aHv hu hj] at this
    exact cAr this
   have hlen:(l.flatten.map aB).length=l.length*k:=by rw [eR,pZ hu]
   have hle:l.length*k≤arr.size:=by rw [q4,hs'];exact Nat.mul_le_mul_right k q6
   have hH:HoldsK (nI k) k w b 0 l.toArray:=by
    unfold HoldsK Holds;intro j hj;rw [size_flatK] at hj
    have hj2:j<l.length*k:=by simpa using hj
    rw [get_flatK _ _ _ _ hj,← hcell j (by rw [hlen];exact hj2)]
    have hja:j<arr.size:=by omega
    rw [gN];refine ⟨?_,?_⟩
    ·unfold World.cell?
     simp only [q2];rw [kQ2,qY hja];simp
    ·unfold World.frozen?
     simp [q2]
   have hb:b<w.heap.size:=lt_of_block q2;have hc:=hcall b (C.κ 0) l.toArray w hH hb (by simp;omega)
   rw [List.size_toArray] at hc
   refine (callsIn_wide.2 hc).mono ?_;rintro e w' ⟨rfl,d',m,os,hp,hs,rfl⟩;have hd:d'.size=l.length:=by have:=hp.1;simpa using this
   have hperm:d'.toList.Perm l:=by
    have:=hp.2.2;have e1:d'.extract 0 l.length=d':=by rw [← hd];simp
    have e2:l.toArray.extract 0 l.length=l.toArray:=by simp
    rw [e1,e2] at this
    simpa using this
   have hsorted:d'.toList.Pairwise fun a b=>a.getD 0 0≤b.getD 0 0:=by
    rw [List.pairwise_iff_getElem];intro i j hi hj hij;have hj2:j<d'.size:=by simpa using hj
    have:=hs i j (Nat.zero_le _) hij (by omega)
    rw [ltL] at this
    have h3:=of_decide_eq_false this;rw [getElem!_pos d' i (by omega),getElem!_pos d' j hj2] at h3
    simpa using Int.not_lt.1 h3
   have hd':d'=(aA l).toArray:=by
    have:=aSx hn hperm hsorted;rw [← this]
   subst hd';have hsu:=mT hu;have hsl:=cQ l;have hw:∃ arr',(sortWorldK (nI k) k w b 0 m (aA l).toArray os).heap[b]? = some (.cells arr' ty (0,0))∧arr'.size=arr.size∧∀ j,j<l.length*k→arr'.getD j undef=(nI k (aA l).toArray[j / k]!)[j % k]! := by
    refine ⟨putCells id 0 (flatK (nI k) k (aA l).toArray) arr,?_,by simp [putCells],fun j hj => ?_⟩
    ·unfold sortWorldK grow putRowK putRow mapBlock
     have hlt:b<(w.heap.modify b (onCells (putCells id 0 (flatK (nI k) k (aA l).toArray)))).size:=by simpa using hb
     show (w.heap.modify b (onCells (putCells id 0 (flatK (nI k) k (aA l).toArray)))++os)[b]? = _;rw [Array.getElem?_append_left hlt,Array.getElem?_modify];simp [q2,onCells]
    ·have hja:j<arr.size:=by omega
     rw [kQ2];unfold putCells;rw [Array.getElem?_mapIdx,qY hja];have hsz:j<(flatK (nI k) k (aA l).toArray).size:=by rw [size_flatK];simpa [hsl] using hj
     simp only [Option.map_some,Option.getD_some,Nat.zero_le,true_and,gN,hsz,if_true,Nat.sub_zero,id];exact get_flatK _ _ _ _ (by simpa [hsl] using hj)
   obtain ⟨arr',w1,w2,w3⟩:=hw;have hlen2:((aA l).flatten.map aB).length=l.length*k:=by rw [eR,pZ hsu,hsl]
   have hall:∀ j (h:j<((aA l).flatten.map aB).length),arr'.getD j undef=(nI k (aA l).toArray[j / k]!)[j % k]! := fun j h=>w3 j (by omega)
   obtain ⟨f1,m1⟩:=aSw (cs':=(aA l).flatten.map aB) (w':=sortWorldK (nI k) k w b 0 m (aA l).toArray os) hM hι q2 rfl rfl rfl
    (by unfold sortWorldK;rw [size_grow];show w.heap.size≤(w.heap.modify b _).size+_;simp)
    (fun b' h1 h2=>by
     show (w.heap.modify b (onCells (putCells id 0 (flatK (nI k) k (aA l).toArray)))++os)[b']? = _;rw [Array.getElem?_append_left (by simpa using h1),Array.getElem?_modify,if_neg (fun h=>h2 h.symm)])
    w1 w2 (by rw [hlen2,hlen]) (fun j h=>by rw [aHv hsu h,hall j h];exact .v _)
    (fun j h=>by
     rw [hall j h];have:=aEc k ((aA l).toArray[j / k]!) ((nI k (aA l).toArray[j / k]!)[j % k]!) (by
      have hm:j % k<(nI k (aA l).toArray[j / k]!).length:=by rw [aEb];exact aZe _ hk
      rw [List.getElem!_eq_getElem?_getD,kQ0 hm];exact gS hm)
     exact this)
   exact ⟨_,rfl,C,f1,m1,.tup [] #[] rfl (fun i h=>by simp at h)⟩
end KV
end Go.Proofs
end
section
namespace Go.Proofs
open Go.RowKit Go.Lib Go.Sort Go.Shelf
namespace KV

theorem info31:(Tryz.prog.info? 31).map (fun i=>i.size)=some 2:=by kernel_rfl
theorem info44:(Tryz.prog.info? 44).map (fun i=>i.size)=some 6:=by kernel_rfl
theorem tI{t k:Nat}(h:(Tryz.prog.info? t).map (fun i=>i.size)=some k):∃ i,Tryz.prog.info? t=some i∧i.size=k:=by
 cases h2:Tryz.prog.info? t with
 | none=>rw [h2] at h;cases h
 | some i=>rw [h2] at h;exact ⟨i,rfl,by simpa using h⟩
theorem bDb(l:Lqq)(hu:uni 2 l)(hn:(aP l 0).Nodup)(hl:l.length≤1000):FMM Tp 114 [.own 0,.fn 115 [] []] [some (.row 31 l.length (l.flatten.map aB))] (.tup []) [some (.row 31 (aA l).length ((aA l).flatten.map aB))] :=
 aOi (k:=2) (tI info31) (by omega)
  (fun blk cap d w hH hb hd=>AnyQ.slices_SortFunc Tryz.sortSk 2 Tryz.isAgg31 Tryz.sizeOf31 (nI 2) (aEb 2) (aEc 2) cfL cAu 115 #[] blk 0 cap d w (enters_of Tryz.func115 (by kernel_rfl) rfl)
   (fun m os dk _ x y=>cBd (x.getD 0 0) (x.getD 1 0) (y.getD 0 0) (y.getD 1 0) _) hH hb hd)
  (fun p cap fv w=>AnyF.slices_SortFunc_none Tryz.sortSk p cap fv w) l hu hn hl
theorem bDc(l:Lqq)(hu:uni 6 l)(hn:(aP l 0).Nodup)(hl:l.length≤1000):FMM Tp 117 [.own 0,.fn 118 [] []] [some (.row 44 l.length (l.flatten.map aB))] (.tup []) [some (.row 44 (aA l).length ((aA l).flatten.map aB))] :=
 aOi (k:=6) (tI info44) (by omega)
  (fun blk cap d w hH hb hd=>AnyQ.slices_SortFunc Tryz.sortDc 6 Tryz.isAgg44 Tryz.sizeOf44 (nI 6) (aEb 6) (aEc 6) cfL cAu 118 #[] blk 0 cap d w (enters_of Tryz.func118 (by kernel_rfl) rfl)
   (fun m os dk _ x y=>cBe (x.getD 0 0) (x.getD 1 0) (x.getD 2 0) (x.getD 3 0) (x.getD 4 0) (x.getD 5 0) (y.getD 0 0) (y.getD 1 0) (y.getD 2 0) (y.getD 3 0) (y.getD 4 0) (y.getD 5 0) _) hH hb hd)
  (fun p cap fv w=>AnyF.slices_SortFunc_none Tryz.sortDc p cap fv w) l hu hn hl
end KV
end Go.Proofs
end
section
namespace Go.Proofs
open Go.RowKit Go.Lib Go.Shelf
namespace KV

theorem bDa{f ty k:Nat}(hsz:∃ i,Tryz.prog.info? ty=some i∧i.size=k)
  (h:∀ (p:Option Addr) (c:Nat) (w:World),Calls Tp f #[.slice p 0 c] w fun e w'=>∃ v',e = .returned v'∧w'.ownsRow w.heap.size ty k v' 0 []∧Below w.heap.size w w') {base:Nat} :
  FV Tp f [.p (.sl 0 [])] base (.own base) [(base,.row ty 0 [])]:=by
 refine ⟨.own 0,[some (.row ty 0 [])],fun C w us hus hM n => ?_,by simp [aXn,bGd,fV,bV,bGe,aXm]⟩
 obtain ⟨u,rfl,hu⟩:=wY hus;cases hu with
 | p _ _ hu =>
  have hu':∃ p c,u = .slice p 0 c:=by cases hu with | sl n cs p cap us h1 h2 h3 h4 h5=>exact ⟨p,cap,rfl⟩
  obtain ⟨p,c,rfl⟩:=hu';refine (callsIn_wide.2 (h p c w)).mono ?_;rintro e w' ⟨v',rfl,h1,h2⟩;have at1:∀ (id:Nat) (o:AO),([some (.row ty 0 [])]:Mem)[id]? = some (some o)→id=0∧o = .row ty 0 []:=fun id o h=>by
   cases id with
   | zero=>simp at h;exact ⟨rfl,h.symm⟩
   | succ i=>simp at h
  have hno:∀ (id:Nat) (o:AO),¬ (([]:Mem)[id]? = some (some o)):=fun id o h=>by simp at h
  have hc:(v' = .slice none 0 0)∨∃ g cap cur,v' = .slice (some ⟨g,0,none⟩) 0 cap∧w.heap.size≤g∧w'.heap[g]? = some (.cells cur ty (0,0))∧cap≤maxLen∧cur.size=cap*k:=by
   rcases h1.2 with ⟨he,h0⟩ | ⟨g,cp,cur,he,hg,hh,r1,r2,r3,r4⟩
   ·exact .inl he
   ·exact .inr ⟨g,cp,cur,he,hg,hh,r2,r3⟩
  have new:∀ b,v'.ownBlock=some b→w.heap.size≤b∧b<w'.heap.size:=fun b hb=>by
   rcases hc with rfl | ⟨g,cap,cur,rfl,hg,hh,_⟩
   ·cases hb
   ·cases hb;exact ⟨hg,lt_of_block hh⟩
  refine ⟨_,rfl,{ ι:=fun _=>v'.ownBlock,κ:=fun _=>(match v' with | .slice _ _ c=>c | _=>0),F:=C.F },⟨h2.os,h2.tape,h2.output,h2.size,fun b hb _=>h2.block b hb,fun id o h=>absurd h (hno id o),fun id o h=>absurd h (hno id o),fun id o h=>absurd h (hno id o),fun id o b hm hl hb => .inl (new b hb).1,fun _ h=>h,fun _ h => .inl h⟩,
   ⟨fun id ty n cs hm => ?_,fun id ty cs hm => ?_,fun id es cl hm => ?_,fun id id' o o' b q1 _ q2 _ _ _ => ?_,fun id o b hm hl hb hf => ?_,fun b hb=>kQ8 (hM.Fs b hb) h2.size,fun id o b hm hl hb=>(new b hb).2⟩,?_⟩
  ·obtain ⟨rfl,he⟩:=at1 _ _ hm
   cases he
   rcases hc with rfl | ⟨g,cap,cur,rfl,_,hh,r2,r3⟩
   ·exact .inl ⟨rfl,rfl,rfl⟩
   ·obtain ⟨i,hi,hs⟩:=hsz
    exact .inr ⟨g,cur,i,rfl,hh,hi,by rw [hs];exact r3,by simp,Nat.zero_le _,r2,fun j h=>by simp at h,fun j h=>by simp at h⟩
  ·obtain ⟨_,he⟩:=at1 _ _ hm;cases he
  ·obtain ⟨_,he⟩:=at1 _ _ hm;cases he
  ·obtain ⟨rfl,_⟩:=at1 _ _ q1
   obtain ⟨rfl,_⟩:=at1 _ _ q2;rfl
  ·have:=hM.Fs _ hf
   have:=(new b hb).1;omega
  ·have h0:v'.oneCell'=true:=by rcases hc with rfl | ⟨g,cap,cur,rfl,_⟩ <;> rfl
   refine .own 0 _ h0 ⟨_,rfl⟩ fun ty' n cs hm => ?_
   obtain ⟨_,he⟩:=at1 _ _ hm;cases he
   rcases hc with rfl | ⟨g,cap,cur,rfl,_⟩
   ·exact .inl ⟨rfl,rfl,rfl⟩
   ·exact .inr ⟨g,rfl,rfl⟩
end KV
end Go.Proofs
end
namespace Go.Proofs
namespace KV
section

theorem wX{k:Nat}{l:Lqq}(hu:uni k l):(l.flatten.map aB).length=l.length*k:=by rw [eR,pZ hu]
end
section

theorem bXp{dl:Int}{sk dc:Lqq}(h0:uni 2 sk)(h1:uni 6 dc)(h2:(bJw dl sk dc)=0)(h3:0≤(sk.length:Int)∧(sk.length:Int)≤(sk.length:Int)∧(sk.length:Int)≤1000000)(h4:0≤(dc.length:Int)∧(dc.length:Int)≤(dc.length:Int)∧(dc.length:Int)≤1000000)(h5:(aP sk 0).Nodup)(h6:sk.length≤1000)(h7:(aP dc 0).Nodup)(h8:dc.length≤1000){base:Nat}:FV Tp 45 [(.p (.agg (cR dl sk dc)))] base (.tup [(.p (.agg (cR dl (aA sk) (aA dc)))),(pI 0)]) []:=by
 have k1:=fk 2 (bVw dl sk dc h0 h1) rfl;have k2:=mq [3] 7 (bDb sk h0 h5 h6);have k3:=mq [5] 7 (bDc dc h1 h7 h8);exact FV.frz (FMM.fi 0 ⟨[],[],[3,5],[]⟩ Tryz.func45 [k1.o,bF,k2.o,k3.o] (gc k3 (gc k2 (gt ((dc.flatten.map aB).length=dc.length*6∧dc.length=dc.length) ⟨wX h1,rfl⟩ (gt ((sk.flatten.map aB).length=sk.length*2∧sk.length=sk.length) ⟨wX h0,rfl⟩ (gc h4 (gc h3 (gc (gB h2) (gc k1 gn))))))))) (by kernel_rfl)
theorem bXq(dl:Int)(sk dc:Lqq)(h:bG dl sk dc){base:Nat}:FV Tp 45 [.p (.agg (cR dl sk dc))] base (.tup [.p (.agg (cR dl (aA sk) (aA dc))),.p (aB 0)]) []:=by
 have h1:=h.len;have h2:=h.len2;exact bXp h.us h.ud ((bPa h.us h.ud).2 h) (by omega) (by omega) h.ns (by omega) h.nd (by omega)
theorem aOh{k:Nat}{l:Lqq}{x:List Int}(hu:uni k l)(hx:x.length=k):uni k (l++[x]):=fun y hy=>by
 rcases jB.1 hy with h | h
 ·exact hu y h
 ·simp at h;rw [h];exact hx
end
section
variable {n nx r0 r1 r2 st x0:Int}{l:List Int}

theorem bKn:(65519:Int)≠0:=by first | decide | simp
abbrev cM(n:Int):PV := .v (.int .u8 n)
theorem bQn(h0:n≤1):FMM Tp 80 [(.ptr 0 0),(pI n)] [some (.box 129 [(.p (.sl l.length (l.map cM))),(pI nx),(.p (.v (.int .u32 st)))])] (pI 0) [some (.box 129 [(.p (.sl l.length (l.map cM))),(pI nx),(.p (.v (.int .u32 st)))])]:=by
 exact FMM.fi 1 ⟨[],[],[],[]⟩ Tryz.func80 [bT,bT,bT,bT,bT,bT,bT] (g7c (aAm h0) gn)
theorem bQo(h0:(1:Int)<n)(h1:(l.length:Int)=0):FMM Tp 80 [(.ptr 0 0),(pI n)] [some (.box 129 [(.p (.sl l.length (l.map cM))),(pI nx),(.p (.v (.int .u32 st)))])] (pI 0) [some (.box 129 [(.p (.sl l.length (l.map cM))),(pI nx),(.p (.v (.int .u32 st)))])]:=by
 exact FMM.fi 1 ⟨[],[],[],[]⟩ Tryz.func80 [bF,bF,bF,bF,bF,bF,bF,bT] (gc (dX h1) (g7c (qU h0) gn))
theorem bQp(h0:(1:Int)<n)(h1:(l.length:Int)≠0)(h2:(l.length:Int)≠0)(h3:l[(nx.tmod (l.length:Int)).toNat]? = some x0)(h4:0≤(nx.tmod (l.length:Int)))(h5:inR (nx.tdiv (l.length:Int)))(h6:inR (nx+1))(h7:(IntKind.wrap .u32 (nx.tdiv (l.length:Int)))=0)(h8:n≤256)(h9:inR (IntKind.wrap .u32 x0))(h10:n≠0)(er0:r0=((IntKind.wrap .u32 x0).tmod n))(er1:r1=(nx+1))(er2:r2=((IntKind.wrap .u32 ((IntKind.wrap .u32 ((IntKind.wrap .u32 ((IntKind.wrap .u32 (st*45))+(IntKind.wrap .u32 x0)))+(IntKind.wrap .u32 ((77:Int)*(IntKind.wrap .u32 (nx.tdiv (l.length:Int)))))))+1)).tmod (65519:Int))):FMM Tp 80 [(.ptr 0 0),(pI n)] [some (.box 129 [(.p (.sl l.length (l.map cM))),(pI nx),(.p (.v (.int .u32 st)))])] (pI r0) [some (.box 129 [(.p (.sl l.length (l.map cM))),(pI r1),(.p (.v (.int .u32 r2)))])]:=by
 subst er0 er1 er2;exact FMM.fi 1 ⟨[],[],[],[]⟩ Tryz.func80 [bF,bF,bF,bF,bF,bF,bF,bF,.x (.v (.int .u8 x0)),bT,bT,bT,bT] (gc h10 (gc h9 (gc (aAm h8) (g3c (dX h7) (gc bKn (gc h6 (gc h5 (gc h2 (gt ((l.map cM)[((nx.tmod (l.length:Int)).toNat*1)]? = some (.v (.int .u8 x0))) (iO (i:=(nx.tmod (l.length:Int)).toNat) h3) (gc (iP (g:=cM) h4 h3) (gc h2 (gc (bJ h1) (g7c (qU h0) gn)))))))))))))
theorem bQq(h0:(1:Int)<n)(h1:(l.length:Int)≠0)(h2:(l.length:Int)≠0)(h3:l[(nx.tmod (l.length:Int)).toNat]? = some x0)(h4:0≤(nx.tmod (l.length:Int)))(h5:inR (nx.tdiv (l.length:Int)))(h6:inR (nx+1))(h7:(IntKind.wrap .u32 (nx.tdiv (l.length:Int)))=0)(h8:(256:Int)<n)(h9:inR (IntKind.wrap .u32 ((IntKind.wrap .u32 (((IntKind.wrap .u32 ((IntKind.wrap .u32 ((IntKind.wrap .u32 ((IntKind.wrap .u32 (st*45))+(IntKind.wrap .u32 x0)))+(IntKind.wrap .u32 ((77:Int)*(IntKind.wrap .u32 (nx.tdiv (l.length:Int)))))))+1)).tmod (65519:Int))*256))+(IntKind.wrap .u32 x0))))(h10:n≠0)(er0:r0=((IntKind.wrap .u32 ((IntKind.wrap .u32 (((IntKind.wrap .u32 ((IntKind.wrap .u32 ((IntKind.wrap .u32 ((IntKind.wrap .u32 (st*45))+(IntKind.wrap .u32 x0)))+(IntKind.wrap .u32 ((77:Int)*(IntKind.wrap .u32 (nx.tdiv (l.length:Int)))))))+1)).tmod (65519:Int))*256))+(IntKind.wrap .u32 x0))).tmod n))(er1:r1=(nx+1))(er2:r2=((IntKind.wrap .u32 ((IntKind.wrap .u32 ((IntKind.wrap .u32 ((IntKind.wrap .u32 (st*45))+(IntKind.wrap .u32 x0)))+(IntKind.wrap .u32 ((77:Int)*(IntKind.wrap .u32 (nx.tdiv (l.length:Int)))))))+1)).tmod (65519:Int))):FMM Tp 80 [(.ptr 0 0),(pI n)] [some (.box 129 [(.p (.sl l.length (l.map cM))),(pI nx),(.p (.v (.int .u32 st)))])] (pI r0) [some (.box 129 [(.p (.sl l.length (l.map cM))),(pI r1),(.p (.v (.int .u32 r2)))])]:=by
 subst er0 er1 er2;exact FMM.fi 1 ⟨[],[],[],[]⟩ Tryz.func80 [bF,bF,bF,bF,bF,bF,bF,bF,.x (.v (.int .u8 x0)),bT,bT,bT,bF] (gc h10 (gc h9 (gc (qU h8) (g3c (dX h7) (gc bKn (gc h6 (gc h5 (gc h2 (gt ((l.map cM)[((nx.tmod (l.length:Int)).toNat*1)]? = some (.v (.int .u8 x0))) (iO (i:=(nx.tmod (l.length:Int)).toNat) h3) (gc (iP (g:=cM) h4 h3) (gc h2 (gc (bJ h1) (g7c (qU h0) gn)))))))))))))
theorem bQr(h0:(1:Int)<n)(h1:(l.length:Int)≠0)(h2:(l.length:Int)≠0)(h3:l[(nx.tmod (l.length:Int)).toNat]? = some x0)(h4:0≤(nx.tmod (l.length:Int)))(h5:inR (nx.tdiv (l.length:Int)))(h6:inR (nx+1))(h7:(IntKind.wrap .u32 (nx.tdiv (l.length:Int)))≠0)(h8:inR (IntKind.wrap .u32 ((IntKind.wrap .u32 (((IntKind.wrap .u32 ((IntKind.wrap .u32 ((IntKind.wrap .u32 ((IntKind.wrap .u32 (st*45))+(IntKind.wrap .u32 x0)))+(IntKind.wrap .u32 ((77:Int)*(IntKind.wrap .u32 (nx.tdiv (l.length:Int)))))))+1)).tmod (65519:Int))*256))+(IntKind.wrap .u32 x0))))(h9:n≠0)(er0:r0=((IntKind.wrap .u32 ((IntKind.wrap .u32 (((IntKind.wrap .u32 ((IntKind.wrap .u32 ((IntKind.wrap .u32 ((IntKind.wrap .u32 (st*45))+(IntKind.wrap .u32 x0)))+(IntKind.wrap .u32 ((77:Int)*(IntKind.wrap .u32 (nx.tdiv (l.length:Int)))))))+1)).tmod (65519:Int))*256))+(IntKind.wrap .u32 x0))).tmod n))(er1:r1=(nx+1))(er2:r2=((IntKind.wrap .u32 ((IntKind.wrap .u32 ((IntKind.wrap .u32 ((IntKind.wrap .u32 (st*45))+(IntKind.wrap .u32 x0)))+(IntKind.wrap .u32 ((77:Int)*(IntKind.wrap .u32 (nx.tdiv (l.length:Int)))))))+1)).tmod (65519:Int))):FMM Tp 80 [(.ptr 0 0),(pI n)] [some (.box 129 [(.p (.sl l.length (l.map cM))),(pI nx),(.p (.v (.int .u32 st)))])] (pI r0) [some (.box 129 [(.p (.sl l.length (l.map cM))),(pI r1),(.p (.v (.int .u32 r2)))])]:=by
 subst er0 er1 er2;exact FMM.fi 1 ⟨[],[],[],[]⟩ Tryz.func80 [bF,bF,bF,bF,bF,bF,bF,bF,.x (.v (.int .u8 x0)),bF,bF,bF] (gc h9 (gc h8 (g3c (bJ h7) (gc bKn (gc h6 (gc h5 (gc h2 (gt ((l.map cM)[((nx.tmod (l.length:Int)).toNat*1)]? = some (.v (.int .u8 x0))) (iO (i:=(nx.tmod (l.length:Int)).toNat) h3) (gc (iP (g:=cM) h4 h3) (gc h2 (gc (bJ h1) (g7c (qU h0) gn))))))))))))
def u32w(z:Int):Int:=IntKind.wrap .u32 z
theorem aKh(z:Int):0≤u32w z∧u32w z<4294967296:=by
 unfold u32w IntKind.wrap;simp only [IntKind.bits,IntKind.signed,Bool.false_and,Bool.false_eq_true,if_false];omega
def aOg(l:List Int)(nx:Int):Int:=u32w (l.getD (nx.tmod (l.length:Int)).toNat 0)
def bKo(l:List Int)(nx st:Int):Int:=(u32w (u32w (u32w (u32w (st*45)+aOg l nx)+u32w (77*u32w (nx.tdiv (l.length:Int))))+1)).tmod 65519
def cI(n:Int)(l:List Int)(nx st:Int):Int × Int × Int:=if n≤1∨l.length=0 then (0,nx,st) else
 (if u32w (nx.tdiv (l.length:Int))=0∧n≤256 then (aOg l nx).tmod n else (u32w (u32w (bKo l nx st*256)+aOg l nx)).tmod n,nx+1,bKo l nx st)
theorem gU(n:Int)(l:List Int)(nx st:Int):0≤(cI n l nx st).1∧((cI n l nx st).1<n∨(cI n l nx st).1=0)∧nx≤(cI n l nx st).2.1∧(cI n l nx st).2.1≤nx+1:=by
 unfold cI
 split
 ·simp;omega
 ·rename_i h
  simp only [not_or] at h
  have h1:∀ z:Int,0≤z→0≤z.tmod n∧z.tmod n<n:=fun z hz=>⟨Int.tmod_nonneg n hz,Int.tmod_lt_of_pos z (by omega)⟩
  have h2:=(aKh (l.getD (nx.tmod (l.length:Int)).toNat 0)).1;have h3:=(aKh (u32w (bKo l nx st*256)+aOg l nx)).1;dsimp only
  split
  ·have:=h1 _ h2;unfold aOg;omega
  ·have:=h1 _ h3;omega
abbrev jC(l:List Int)(nx st:Int):AO := .box 129 [.p (.sl l.length (l.map cM)),.p (aB nx),.p (.v (.int .u32 st))]
theorem aKi(n:Int)(l:List Int)(nx st:Int)(h:0≤nx∧nx≤1000000000):FMM Tp 80 [.ptr 0 0,.p (aB n)] [some (jC l nx st)] (.p (aB (cI n l nx st).1)) [some (jC l (cI n l nx st).2.1 (cI n l nx st).2.2)]:=by
 by_cases h1:n≤1
 ·have e:cI n l nx st=(0,nx,st):=by unfold cI;rw [if_pos (.inl h1)]
  rw [e];exact bQn h1
 ·by_cases h2:l.length=0
  ·have e:cI n l nx st=(0,nx,st):=by unfold cI;rw [if_pos (.inr h2)]
   rw [e];exact bQo (by omega) (by omega)
  ·have h0:0≤nx.tmod (l.length:Int)∧nx.tmod (l.length:Int)<(l.length:Int):=⟨Int.tmod_nonneg _ h.1,Int.tmod_lt_of_pos _ (by omega)⟩
   have hq:0≤nx.tdiv (l.length:Int)∧nx.tdiv (l.length:Int)≤nx:=⟨Int.tdiv_nonneg h.1 (by omega),Int.tdiv_le_self _ h.1⟩
   have hi:(nx.tmod (l.length:Int)).toNat<l.length:=by omega
   have hg:l[(nx.tmod (l.length:Int)).toNat]? = some (l.getD (nx.tmod (l.length:Int)).toNat 0):=by
    rw [kQ0 hi,kQ4,kQ0 hi];rfl
   have hw:∀ z,inR (IntKind.wrap .u32 z):=fun z=>by have:=aKh z;unfold u32w at this;unfold inR;omega
   unfold cI;rw [if_neg (by simp only [not_or];exact ⟨h1,h2⟩)]
   dsimp only
   by_cases h3:u32w (nx.tdiv (l.length:Int))=0
   ·by_cases h4:n≤256
    ·rw [if_pos ⟨h3,h4⟩]
     exact bQp (by omega) (by omega) (by omega) hg h0.1 (by unfold inR;omega) (by unfold inR;omega) h3 h4 (hw _) (by omega) rfl rfl rfl
    ·rw [if_neg (fun h=>h4 h.2)]
     exact bQq (by omega) (by omega) (by omega) hg h0.1 (by unfold inR;omega) (by unfold inR;omega) h3 (by omega) (hw _) (by omega) rfl rfl rfl
   ·rw [if_neg (fun h=>h3 h.1)]
    exact bQr (by omega) (by omega) (by omega) hg h0.1 (by unfold inR;omega) (by unfold inR;omega) h3 (hw _) (by omega) rfl rfl rfl
theorem bQs{r0:Bool}(h0:0≤nx∧nx≤1000000000)(er0:r0=(((cI n l nx st).1) == (0:Int)))(er1:r1=((cI n l nx st).2.1))(er2:r2=((cI n l nx st).2.2)):FMM Tp 81 [(.ptr 0 0),(pI n)] [some (.box 129 [(.p (.sl l.length (l.map cM))),(pI nx),(.p (.v (.int .u32 st)))])] (pB r0) [some (.box 129 [(.p (.sl l.length (l.map cM))),(pI r1),(.p (.v (.int .u32 r2)))])]:=by
 subst er0 er1 er2;have k1:=mq [0] 1 (aKi n l nx st h0);exact FMM.fi 1 ⟨[],[],[],[]⟩ Tryz.func81 [k1.o] (gc k1 gn)
theorem bXn{lo hi:Int}(h0:inR (hi-lo))(h1:inR ((hi-lo)+1))(h2:0≤nx∧nx≤1000000000)(h3:inR (lo+((cI ((hi-lo)+1) l nx st).1)))(er0:r0=(lo+((cI ((hi-lo)+1) l nx st).1)))(er1:r1=((cI ((hi-lo)+1) l nx st).2.1))(er2:r2=((cI ((hi-lo)+1) l nx st).2.2)):FMM Tp 79 [(.ptr 0 0),(pI lo),(pI hi)] [some (.box 129 [(.p (.sl l.length (l.map cM))),(pI nx),(.p (.v (.int .u32 st)))])] (pI r0) [some (.box 129 [(.p (.sl l.length (l.map cM))),(pI r1),(.p (.v (.int .u32 r2)))])]:=by
 subst er0 er1 er2;have k1:=mq [0] 1 (aKi ((hi-lo)+1) l nx st h2);exact FMM.fi 1 ⟨[],[],[],[]⟩ Tryz.func79 [k1.o] (gc h3 (gc k1 (gc h1 (gc h0 gn))))
def iM(n:Int)(l:List Int)(nx st:Int):Bool × Int × Int:=((cI n l nx st).1 == 0,(cI n l nx st).2)
theorem bQt(n:Int)(l:List Int)(nx st:Int)(h:0≤nx∧nx≤1000000000):FMM Tp 81 [.ptr 0 0,.p (aB n)] [some (jC l nx st)] (.p (blP (iM n l nx st).1)) [some (jC l (iM n l nx st).2.1 (iM n l nx st).2.2)]:=bQs h rfl rfl rfl
theorem wW(n:Int)(l:List Int)(nx st:Int):nx≤(iM n l nx st).2.1∧(iM n l nx st).2.1≤nx+1:=(gU n l nx st).2.2
def oM(lo hi:Int)(l:List Int)(nx st:Int):Int × Int × Int:=(lo+(cI (hi-lo+1) l nx st).1,(cI (hi-lo+1) l nx st).2)
theorem aBf(lo hi:Int)(l:List Int)(nx st:Int):lo≤(oM lo hi l nx st).1∧((oM lo hi l nx st).1≤hi∨(oM lo hi l nx st).1=lo)∧nx≤(oM lo hi l nx st).2.1∧(oM lo hi l nx st).2.1≤nx+1:=by
 have:=gU (hi-lo+1) l nx st;unfold oM;dsimp only;omega
theorem bXo(lo hi:Int)(l:List Int)(nx st:Int)(h:0≤nx∧nx≤1000000000)(hb:(-1000000≤lo∧lo≤1000000) ∧ -1000000≤hi∧hi≤1000000):FMM Tp 79 [.ptr 0 0,.p (aB lo),.p (aB hi)] [some (jC l nx st)] (.p (aB (oM lo hi l nx st).1)) [some (jC l (oM lo hi l nx st).2.1 (oM lo hi l nx st).2.2)]:=by
 have:=aBf lo hi l nx st;exact bXn (by unfold inR;omega) (by unfold inR;omega) h (show inR (oM lo hi l nx st).1 by unfold inR;omega) rfl rfl rfl
theorem vI{r nx' st':Int}(lo hi:Int)(l:List Int)(nx st:Int)(h:0≤nx∧nx≤1000000000)(hb:(-1000000≤lo∧lo≤1000000) ∧ -1000000≤hi∧hi≤1000000)(e:oM lo hi l nx st=(r,nx',st')):FMM Tp 79 [.ptr 0 0,.p (aB lo),.p (aB hi)] [some (jC l nx st)] (pI r) [some (jC l nx' st')]:=by
 have:=bXo lo hi l nx st h hb;rw [e] at this
 exact this
theorem eE{r nx' st':Int}(n:Int)(l:List Int)(nx st:Int)(h:0≤nx∧nx≤1000000000)(e:cI n l nx st=(r,nx',st')):FMM Tp 80 [.ptr 0 0,.p (aB n)] [some (jC l nx st)] (pI r) [some (jC l nx' st')]:=by
 have:=aKi n l nx st h;rw [e] at this
 exact this
theorem tH{r:Bool}{nx' st':Int}(n:Int)(l:List Int)(nx st:Int)(h:0≤nx∧nx≤1000000000)(e:iM n l nx st=(r,nx',st')):FMM Tp 81 [.ptr 0 0,.p (aB n)] [some (jC l nx st)] (pB r) [some (jC l nx' st')]:=by
 have:=bQt n l nx st h;rw [e] at this
 exact this
theorem cBc:FMM Tp 17 [(.p (.sl l.length (l.map cM)))] [] (.ptr 0 0) [some (.box 129 [(.p (.sl l.length (l.map cM))),(pI 0),(.p (.v (.int .u32 (17:Int))))])]:=by
 exact FMM.fi 0 ⟨[],[0],[],[]⟩ Tryz.func17 [] gn
end
section

end
section

theorem bXm(a b:Int):skB [a,b]=(within a 1 999 && within b (-1) 360000):=rfl
end
section

theorem zW{f:Lqq}(h:(aP f 0).Nodup):(aP (aA f) 0).Nodup:=((fG f).map _).nodup_iff.2 h
end
section
mutual
def wkP:PV→PV
 | .v (.slice none 0 0) => .sl 0 []
 | .agg cs => .agg (bKq cs)
 | x=>x
def bKq:List PV→List PV
 | []=>[]
 | x::r=>wkP x::bKq r
end
theorem aOj:∀ l:List PV,bKq l=l.map wkP
 | []=>by simp [bKq]
 | x::r=>by rw [bKq,aOj r];rfl
def wk1:AV→AV
 | .p x => .p (wkP x)
 | x=>x
theorem bQu{F:Nat→Prop}{w:World}{x:PV}{u:Value}(h:cN F w x u):cN F w (wkP x) u:=by
 induction h with
 | v x =>
  unfold wkP
  split
  ·rename_i e
   cases e;exact .sl 0 [] none 0 (fun _=>undef) (dM _) (Nat.zero_le _) (fun i h=>by simp at h) (fun i h=>by simp at h) (fun i h=>by simp at h)
  ·rename_i e;cases e
  ·exact .v x
 | sl n cs p cap us h1 h2 h3 h4 h5 _=>unfold wkP;exact .sl n cs p cap us h1 h2 h3 h4 h5
 | agg cs vs h0 h1 _ ih =>
  unfold wkP;rw [aOj];exact .agg _ vs (fun i hi=>h0 i (by simpa using hi)) (by simpa using h1) (fun i hi=>by
   have:=ih i (by simpa using hi)
   simpa using this)
 | mp es b cl arr us hb h0 h1 h2 h3 _=>unfold wkP;exact .mp es b cl arr us hb h0 h1 h2 h3
 | rp cs off b o us h1 h2 h3 _=>unfold wkP;exact .rp cs off b o us h1 h2 h3
theorem bQv{C:Cx}{M:Mem}{w:World}{x:AV}{u:Value}(h:Rep C M w x u):Rep C M w (wk1 x) u:=by
 cases h with
 | p x u h=>exact .p _ _ (bQu h)
 | _=>unfold wk1;constructor <;> assumption
theorem dD.wk{C:Cx}{M:Mem}{w:World}:∀ {args:List AV} {us:List Value},dD C M w args us→dD C M w (args.map wk1) us
 | [],_,h=>by cases h;exact .nil
 | x::l,_,h=>by
  cases h with
  | cons _ _ u us h1 h2=>exact .cons _ _ _ _ (bQv h1) h2.wk
theorem FMM.argwk{P:Program}{f:Nat}{args args':List AV}{r:AV}{M M':Mem}(h:FMM P f args' M r M')(e:args.map wk1=args'):FMM P f args M r M':=fun C w us hus hM n=>by
 subst e;exact h C w us hus.wk hM n
theorem FV.argwk{P:Program}{f base:Nat}{args args':List AV}{y:AV}{L:Upd}(h:FV P f args' base y L)(e:args.map wk1=args'):FV P f args base y L:=by
 obtain ⟨r,M1,h1,h2⟩:=h;exact ⟨r,M1,h1.argwk e,h2⟩
end
section

end
section

theorem cBb{dc:Lqq}{base:Nat}:FV Tp 147 [(.p (fS dc))] base (.fn 187 [] [(.rp [(fS dc)] 0)]) []:=by
 exact FV.fi Tryz.func147 [.g 3 ⟨[],[],[0],[]⟩] gn
end
section
variable {P:Program} {C C0:Cx} {M M0:Mem} {w w0:World}

theorem cA{w:World}{b:Nat}{o:Obj}(h:w.heap[b]? = some o):b<w.heap.size:=(mM.1 h).1

theorem aEi(hM:aR P C M w){w':World}(hsz:w.heap.size≤w'.heap.size)(hF:∀ b,C.F b→w'.heap[b]? = w.heap[b]?)(hL:∀ (id:Nat) (o:AO) (b:Nat),M[id]? = some (some o)→o.live=true→C.ι id=some b→w'.heap[b]? = w.heap[b]?) :
  aR P C M w'∧Le C C M M w w':=by
 have hle:Le C C M M w w':=⟨fun _ o h=>⟨o,h⟩,fun _ _ _ _ _ cs h=>⟨cs,h⟩,fun _ o h o' h' hl=>by rw [h] at h';cases h';exact ⟨hl,rfl,rfl⟩,fun _ h=>h,hF⟩
 refine ⟨⟨fun i ty' n cs hm => ?_,fun i ty' cs hm => ?_,fun i es cl hm => ?_,hM.inj,hM.nF,fun b hb=>kQ8 (hM.Fs b hb) hsz,fun i x b hm hl hb=>kQ8 (hM.lt i x b hm hl hb) hsz⟩,hle⟩
 ·rcases hM.row _ _ _ _ hm with h4 | ⟨b,arr,inf,q0,q1,q2,q3,q4,q5,q6,q7,q8⟩
  ·exact .inl h4
  ·exact .inr ⟨b,arr,inf,q0,by rw [hL _ _ _ hm rfl q0];exact q1,q2,q3,q4,q5,q6,fun j hj=>(q7 j hj).mono hle.F hle.fz,q8⟩
 ·obtain ⟨b,arr,q0,q1,q2,q3,q4⟩:=hM.box _ _ _ hm
  exact ⟨b,arr,q0,by rw [hL _ _ _ hm rfl q0];exact q1,q2,fun j hj=>(q3 j hj).mono hle,q4⟩
 ·obtain ⟨b,arr,q0,q1,q2,q3⟩:=hM.mp _ _ _ hm
  refine ⟨b,arr,q0,by rw [hL _ _ _ hm rfl q0];exact q1,q2,fun j hj => ?_⟩
  obtain ⟨en,r1,r2,r3,r4⟩:=q3 j hj;exact ⟨en,r1,r2,r3,r4.mono hle.F hle.fz⟩

theorem Sim.beside{R R':List (Nat × Obj)}{st:St}{a:Act}{w':World}(h:Sim P (C0.with R) M0 w0 st a w)(X:Nat→Prop)(hX:∀ b,X b→∃ o,(b,o)∈R)(h1:w'.os=w.os)(h2:w'.tape=w.tape)(h3:w'.output=w.output)
  (hsz:w.heap.size≤w'.heap.size) (hk:∀ b,b<w.heap.size→¬ X b→w'.heap[b]? = w.heap[b]?)
  (hR':∀ p∈R',(p∈R∧¬ X p.1)∨(w'.heap[p.1]? = some p.2∧p.2 ≠ .deferred (some [])∧(w.heap.size≤p.1∨∃ o,(p.1,o)∈R))):Sim P (C0.with R') M0 w0 st a w':=by
 obtain ⟨C,hS,hM,hF,⟨l,m1,m2,m3⟩,hR,hP⟩:=h;have hXR:∀ b,X b→∃ o,w.heap[b]? = some o∧w0.heap.size≤b∧o ≠ .deferred (some [])∧¬ C.F b∧∀ (id:Nat) (o:AO),st.m[id]? = some (some o)→o.live=true→C.ι id≠some b:=fun b hb=>by
  obtain ⟨o,ho⟩:=hX b hb;exact ⟨o,hR _ ho⟩
 have hFz:∀ b,C.F b→w'.heap[b]? = w.heap[b]? := fun b hb=>hk b (hM.Fs b hb) (fun hx=>by obtain ⟨_,_,_,_,q,_⟩:=hXR b hx;exact q hb)
 have hLv:∀ (id:Nat) (o:AO) (b:Nat),st.m[id]? = some (some o)→o.live=true→C.ι id=some b→w'.heap[b]? = w.heap[b]? := fun id o b ho hl hb=>hk b (hM.lt _ _ _ ho hl hb) (fun hx=>by obtain ⟨_,_,_,_,_,q⟩:=hXR b hx;exact q id o ho hl hb)
 obtain ⟨hM',hle⟩:=aEi hM hsz hFz hLv;refine ⟨C,hS.le hle,hM',⟨h1.trans hF.os,h2.trans hF.tape,h3.trans hF.out,fT hF.size hsz,fun b hb hn=>(hk b (kQ8 hb hF.size) (fun hx=>by obtain ⟨_,_,q,_⟩:=hXR b hx;omega)).trans (hF.keep b hb hn),hF.ids,hF.row,hF.liv,hF.new,hF.F1,hF.F2⟩,⟨l,m1,m2,fun D hD => ?_⟩,fun p hp => ?_,fun i to ti sz L hm => ?_,hP.2⟩
 ·obtain ⟨q1,q2,q3⟩:=m3 D hD
  refine ⟨(hk D (cA q1) (fun hx => ?_)).trans q1,q2,q3⟩
  obtain ⟨o,r1,_,r3,_⟩:=hXR D hx;rw [q1] at r1;cases r1;exact r3 rfl
 ·rcases hR' p hp with ⟨hin,hx⟩ | ⟨r1,r2,r3⟩
  ·obtain ⟨q1,q2,q3,q4,q5⟩:=hR p hin
   exact ⟨(hk _ (cA q1) hx).trans q1,q2,q3,q4,q5⟩
  ·rcases r3 with r3 | ⟨o,ho⟩
   ·refine ⟨r1,fT hF.size r3,r2,fun hf => ?_,fun id o ho hl hb => ?_⟩
    ·have:=hM.Fs _ hf;omega
    ·have:=hM.lt _ _ _ ho hl hb;omega
   ·obtain ⟨q1,q2,q3,q4,q5⟩:=hR _ ho
    exact ⟨r1,q2,r2,q4,q5⟩
 ·obtain ⟨p,p0,p1⟩:=hP.1 _ _ _ _ _ hm
  refine ⟨p.move p.io rfl (fun _ h=>h) hFz fun b hb=>⟨hk b (p.lt hb).1 fun hx => ?_,p.own b hb⟩,p0,fun b hb=>⟨(p1 b hb).1,fun q hq e => ?_⟩⟩
  ·obtain ⟨o,ho⟩:=hX b hx
   exact (p1 b hb).2 _ ho rfl
  ·rcases hR' q hq with ⟨hin,_⟩ | ⟨_,_,r3⟩
   ·exact (p1 b hb).2 q hin e
   ·rcases r3 with r3 | ⟨o,ho⟩
    ·have:=(p.lt hb).1;omega
    ·exact (p1 b hb).2 _ ho e

theorem Sim.has{R:List (Nat × Obj)}{st:St}{a:Act}(h:Sim P (C0.with R) M0 w0 st a w):∀ p∈R,w.heap[p.1]? = some p.2:=fun p hp=>by
 obtain ⟨C,_,_,_,_,hR,_⟩:=h;exact (hR p hp).1

end
section
open Go.Maps Go.MapKept
open Go.ChangeMaps (setBlock)

structure Ent where
 k:Int
 l:Lqq
 b:Nat
 cap:Nat
 arr:Array Value

def Ent.val(e:Ent):Value := .slice (some ⟨e.b,0,none⟩) e.l.length e.cap
def Ent.blk(e:Ent):Nat × Obj:=(e.b,.cells e.arr 44 (0,0))
structure Ent.OK (e:Ent):Prop where
 key:(Lit.int .i64 e.k).wf=true
 sz:e.arr.size=e.cap*6
 le:e.l.length≤e.cap
 cap:e.cap≤maxLen
 at_:e.arr.toList.take (e.l.length*6)=e.l.flatten.map (Value.int .i64)
 u:uni 6 e.l

structure mI (mb:Nat) (es:Array MapEntry) (L:List Ent):Prop where
 e1:∀ x∈es.toList,∃ e∈L,x.key = .int .i64 e.k∧x.val=e.val
 e2:∀ e∈L,∃ x∈es.toList,x.key = .int .i64 e.k∧x.val=e.val
 nd:es.toList.Pairwise (fun x y=>x.key≠y.key)
 ok:∀ e∈L,e.OK
 keys:(L.map (·.k)).Nodup
 blks:(mb::L.map (·.b)).Nodup
 ord:es.toList.map (fun x=>(x.key,x.val))=L.map fun e=>(Value.int .i64 e.k,e.val)

theorem mI.nil(mb:Nat):mI mb #[] []:=⟨fun x h=>by simp at h,fun e h=>by simp at h,by simp,fun e h=>by simp at h,by simp,by simp,rfl⟩

def sI(L:List Ent)(k:Int):Option Ent:=L.find? fun e=>e.k == k
def qX(L:List Ent)(k:Int):Value:=match sI L k with
 | some e=>e.val
 | none => .slice none 0 0

theorem vK{L:List Ent}{k:Int}{e:Ent}(h:sI L k=some e):e∈L∧e.k=k:=⟨tQ h,by simpa using aNj h⟩
theorem aTu{L:List Ent}{k:Int}(h:sI L k=none):∀ e∈L,e.k≠k:=fun e he hk=>by
 have:=xT.1 h e he;simp [hk] at this
theorem bDk{L:List Ent}{k:Int}{e:Ent}(hn:(L.map (·.k)).Nodup)(he:e∈L)(hk:e.k=k):sI L k=some e:=by
 cases h:sI L k with
 | none=>exact absurd hk (aTu h e he)
 | some e' =>
  obtain ⟨h1,h2⟩:=vK h;have:∀ (l:List Ent),(l.map (·.k)).Nodup→e∈l→e'∈l→e=e':=by
   intro l
   induction l with
   | nil=>intro _ h;simp at h
   | cons x r ih =>
    intro hn h3 h4;rw [gZ,List.nodup_cons] at hn
    rcases jH.1 h3 with e1 | h5
    ·rcases jH.1 h4 with e2 | h6
     ·rw [e1,e2]
     ·exact absurd (kQ9.2 ⟨e',h6,by rw [h2,← hk,e1]⟩) hn.1
    ·rcases jH.1 h4 with e2 | h6
     ·exact absurd (kQ9.2 ⟨e,h5,by rw [hk,← h2,e2]⟩) hn.1
     ·exact ih hn.2 h5 h6
  rw [this L hn he h1]

section
variable {P:Program} {w:World} {t kt et:TypeId} {mb:Nat} {es:Array MapEntry} {cl:Nat} {L:List Ent}

theorem aKn(hkt:P.underlying kt=some (.int .i64)){k:Int}(hk:(Lit.int .i64 k).wf=true):keyOf P kt (.int .i64 k)=some (.int .i64 k):=keyOf_int_mk hkt hk

theorem bKr(ht:P.underlying t=some (.map kt et))(hkt:P.underlying kt=some (.int .i64))(hz:(zeroValue et).run P w = .ok (.slice none 0 0) w)(hb:w.heap[mb]? = some (.map es cl))(hM:mI mb es L){k:Int}(hk:(Lit.int .i64 k).wf=true) :
  (Instr.lookup t (.map (some mb)) (.int .i64 k) false).run P w = .ok (qX L k) w:=by
 have K:=int_keyed hkt;have hkey:=aKn hkt hk;have hes:∀ e∈es.toList,∃ l,keyOf P kt e.key=some l:=fun x hx=>by
  obtain ⟨e,he,h1,_⟩:=hM.e1 x hx;exact ⟨_,by rw [h1];exact aKn hkt (hM.ok e he).key⟩
 rcases K.find w hkey es.toList hes with ⟨h1,h2⟩ | ⟨j,e0,h1,h2,h3⟩
 ·have:sI L k=none:=by
   rw [sI,xT];intro e he;obtain ⟨x,hx,h4,_⟩:=hM.e2 e he;have:=h2 x hx;rw [h4] at this
   intro hk';exact this (by rw [eq_of_beq hk'])
  unfold qX;rw [this];simp [Instr.lookup,run_underlying ht,MapKept.run_getObj_map hb,K.check w _ hkey,h1,hz,Result.andThen]
 ·obtain ⟨e,he,h4,h5⟩:=hM.e1 e0 (kQ5 h2)
  rw [h3] at h4
  have hk':e.k=k:=by injection h4 with _ h;exact h.symm
  unfold qX;rw [bDk hM.keys he hk'];simp [Instr.lookup,run_underlying ht,MapKept.run_getObj_map hb,K.check w _ hkey,h1,Result.andThen,h5]

def pK(L:List Ent)(e:Ent):List Ent:=if L.any (fun x=>x.k == e.k) then L.map (fun x=>if x.k == e.k then e else x) else L++[e]
theorem xB{L:List Ent}{e:Ent}(h:∀ x∈L,x.k≠e.k):pK L e=L++[e]:=by
 unfold pK;rw [if_neg];intro h1;obtain ⟨x,hx,he⟩:=List.any_eq_true.1 h1;exact h x hx (by simpa using he)
theorem sJ{L:List Ent}{e x:Ent}(hx:x∈L)(he:x.k=e.k):pK L e=L.map (fun x=>if x.k == e.k then e else x):=by
 unfold pK;rw [if_pos (List.any_eq_true.2 ⟨x,hx,by simpa using he⟩)]
theorem gV{L:List Ent}{e x:Ent}:x∈pK L e↔(x∈L∧x.k≠e.k)∨x=e:=by
 by_cases h:∃ y∈L,y.k=e.k
 ·obtain ⟨y,hy,he⟩:=h
  rw [sJ hy he,kQ9];constructor
  ·rintro ⟨z,hz,rfl⟩
   by_cases hk:z.k=e.k
   ·rw [if_pos (by simpa using hk)];exact .inr rfl
   ·rw [if_neg (by simpa using hk)];exact .inl ⟨hz,hk⟩
  ·rintro (⟨h1,h2⟩ | rfl)
   ·exact ⟨x,h1,by rw [if_neg (by simpa using h2)]⟩
   ·exact ⟨y,hy,by rw [if_pos (by simpa using he)]⟩
 ·have h':∀ y∈L,y.k≠e.k:=fun y hy he=>h ⟨y,hy,he⟩
  rw [xB h',jB,List.mem_singleton];constructor
  ·rintro (h1 | h1)
   ·exact .inl ⟨h1,h' x h1⟩
   ·exact .inr h1
  ·rintro (⟨h1,_⟩ | h1)
   ·exact .inl h1
   ·exact .inr h1
theorem bDl{L:List Ent}{e:Ent}(hn:(L.map (·.k)).Nodup):((pK L e).map (·.k)).Nodup:=by
 by_cases h:∃ y∈L,y.k=e.k
 ·obtain ⟨y,hy,he⟩:=h
  rw [sJ hy he,tS];have:L.map ((fun x=>x.k) ∘ fun x=>if x.k == e.k then e else x)=L.map (·.k):=aAj fun x _=>by
   by_cases hk:x.k=e.k
   ·simp [hk]
   ·simp [hk]
  rw [this];exact hn
 ·have h':∀ y∈L,y.k≠e.k:=fun y hy he=>h ⟨y,hy,he⟩
  rw [xB h',gJ,List.nodup_append];refine ⟨hn,by simp,fun x hx y hy => ?_⟩
  obtain ⟨z,hz,rfl⟩:=kQ9.1 hx;simp at hy
  subst hy;exact h' z hz
theorem bDm{mb:Nat}{L:List Ent}{e:Ent}(hn:(L.map (·.k)).Nodup)(hb:(mb::L.map (·.b)).Nodup)(h1:e.b≠mb)(h2:∀ x∈L,x.k≠e.k→x.b≠e.b):(mb::(pK L e).map (·.b)).Nodup:=by
 obtain ⟨b1,b2⟩:=List.nodup_cons.1 hb;refine List.nodup_cons.2 ⟨?_,?_⟩
 ·intro hin
  obtain ⟨x,hx,hxb⟩:=kQ9.1 hin
  rcases gV.1 hx with ⟨h1,_⟩ | rfl
  ·exact b1 (kQ9.2 ⟨x,h1,hxb⟩)
  ·exact h1 hxb
 ·by_cases h:∃ y∈L,y.k=e.k
  ·obtain ⟨y,hy,he⟩:=h
   rw [sJ hy he,tS,List.Nodup,List.pairwise_map];rw [List.Nodup,List.pairwise_map] at hn b2
   refine List.Pairwise.imp_of_mem ?_ (hn.and b2);intro x z hx hz ⟨q1,q2⟩;dsimp only [Function.comp]
   by_cases hk:x.k=e.k
   ·rw [if_pos (by simpa using hk),if_neg (by simp;rw [← hk];exact fun h=>q1 h.symm)]
    exact fun he=>h2 z hz (fun h=>q1 (by rw [hk,h])) he.symm
   ·rw [if_neg (by simpa using hk)]
    by_cases hk2:z.k=e.k
    ·rw [if_pos (by simpa using hk2)];exact h2 x hx hk
    ·rw [if_neg (by simpa using hk2)];exact q2
  ·have h':∀ y∈L,y.k≠e.k:=fun y hy he=>h ⟨y,hy,he⟩
   rw [xB h',gJ,List.nodup_append];refine ⟨b2,by simp,fun x hx y hy => ?_⟩
   obtain ⟨z,hz,rfl⟩:=kQ9.1 hx;simp at hy
   subst hy;exact h2 z hz (h' z hz)

theorem bRb(ht:P.underlying t=some (.map kt et))(hkt:P.underlying kt=some (.int .i64))(hb:w.heap[mb]? = some (.map es cl))(hM:mI mb es L)(e:Ent)(he:e.OK)
  (hblk:e.b≠mb∧∀ x∈L,x.k≠e.k→x.b≠e.b) :
  ∃ es' cl',(Instr.mapUpdate t (.map (some mb)) (.int .i64 e.k) e.val).run P w = .ok () (setBlock w mb (.map es' cl'))∧mI mb es' (pK L e)∧((∀ x∈es.toList,x.born<cl)→∀ x∈es'.toList,x.born<cl'):=by
 have K:=int_keyed hkt;have hkey:=aKn hkt he.key;have hes:∀ e∈es.toList,∃ l,keyOf P kt e.key=some l:=fun x hx=>by
  obtain ⟨e,he,h1,_⟩:=hM.e1 x hx;exact ⟨_,by rw [h1];exact aKn hkt (hM.ok e he).key⟩
 have hok:∀ x∈pK L e,x.OK:=fun x hx=>by
  rcases gV.1 hx with ⟨h1,_⟩ | rfl
  ·exact hM.ok x h1
  ·exact he
 have hkeys:((pK L e).map (·.k)).Nodup:=bDl hM.keys
 have hblks:(mb::(pK L e).map (·.b)).Nodup:=bDm hM.keys hM.blks hblk.1 hblk.2
 rcases K.find w hkey es.toList hes with ⟨h1,h2⟩ | ⟨j,e0,h1,h2,h3⟩
 ·refine ⟨es.push ⟨.int .i64 e.k,e.val,cl⟩,cl+1,?_,⟨fun x hx => ?_,fun x hx => ?_,?_,hok,hkeys,hblks,?_⟩,fun hbn x hx => ?_⟩
  ·simp [Instr.mapUpdate,run_underlying ht,MapKept.run_getObj_map hb,K.check w false hkey,h1,MapKept.run_setObj_map _ hb,Result.andThen,setBlock]
  ·simp only [Array.toList_push,jB,List.mem_singleton] at hx
   rcases hx with hx | rfl
   ·obtain ⟨y,hy,q1,q2⟩:=hM.e1 x hx
    refine ⟨y,gV.2 (.inl ⟨hy,fun hk=>h2 x hx (by rw [q1,hk])⟩),q1,q2⟩
   ·exact ⟨e,gV.2 (.inr rfl),rfl,rfl⟩
  ·rcases gV.1 hx with ⟨q1,_⟩ | rfl
   ·obtain ⟨y,hy,q2⟩:=hM.e2 x q1
    exact ⟨y,by simp [hy],q2⟩
   ·exact ⟨⟨.int .i64 x.k,x.val,cl⟩,by simp,rfl,rfl⟩
  ·rw [Array.toList_push,List.pairwise_append]
   exact ⟨hM.nd,by simp,fun x hx y hy=>by simp at hy;subst hy;exact h2 x hx⟩
  ·have hno:∀ x∈L,x.k≠e.k:=fun x hx hk=>by
    obtain ⟨y,hy,q2,_⟩:=hM.e2 x hx;exact h2 y hy (by rw [q2,hk])
   rw [xB hno,Array.toList_push,gJ,gJ,hM.ord];rfl
  ·simp only [Array.toList_push,jB,List.mem_singleton] at hx
   rcases hx with hx | rfl
   ·exact Nat.lt_succ_of_lt (hbn x hx)
   ·exact Nat.lt_succ_self _
 ·have hj:es[j]? = some e0:=by simpa using h2
  have hlist:(es.modify j (fun e'=>{ e' with key := .int .i64 e.k,val:=e.val })).toList=es.toList.set j { e0 with key := .int .i64 e.k,val:=e.val }:=by
   rw [Array.toList_modify,Go.ChangeMaps.modify_eq_set _ _ _ _ h2]
  have hjl:j<es.toList.length:=(kQ3.1 h2).1;have hother:∀ i x,es.toList[i]? = some x→i≠j→x.key ≠ .int .i64 e.k:=fun i x hi hij=>by
   rw [← h3];obtain ⟨hi1,rfl⟩:=kQ3.1 hi;obtain ⟨hj1,hje⟩:=kQ3.1 h2;have:=List.pairwise_iff_getElem.1 hM.nd
   rcases Nat.lt_or_ge i j with h | h
   ·rw [← hje];exact this i j hi1 hj1 h
   ·rw [← hje];exact (this j i hj1 hi1 (by omega)).symm
  have who:∀ x∈es.toList.set j { e0 with key := .int .i64 e.k,val:=e.val },x={ e0 with key := .int .i64 e.k,val:=e.val }∨(x∈es.toList∧x.key ≠ .int .i64 e.k):=fun x hx=>by
   obtain ⟨i,hi,ex⟩:=List.getElem_of_mem hx;rw [xU] at ex
   split at ex
   ·exact .inl ex.symm
   ·rename_i hne
    have hi':i<es.toList.length:=by simpa using hi
    exact .inr ⟨ex ▸ gS hi',hother i x (by rw [kQ0 hi',ex]) (fun e=>hne e.symm)⟩
  refine ⟨es.modify j (fun e'=>{ e' with key := .int .i64 e.k,val:=e.val }),cl,?_,⟨fun x hx => ?_,fun x hx => ?_,?_,hok,hkeys,hblks,?_⟩,fun hbn x hx => ?_⟩
  ·simp [Instr.mapUpdate,run_underlying ht,MapKept.run_getObj_map hb,K.check w false hkey,h1,hj,h3,K.stays w hkey,MapKept.run_setObj_map _ hb,Result.andThen,setBlock]
  ·rw [hlist] at hx
   rcases who x hx with rfl | ⟨q1,q2⟩
   ·exact ⟨e,gV.2 (.inr rfl),rfl,rfl⟩
   ·obtain ⟨y,hy,r1,r2⟩:=hM.e1 x q1
    exact ⟨y,gV.2 (.inl ⟨hy,fun hk=>q2 (by rw [r1,hk])⟩),r1,r2⟩
  ·rw [hlist]
   rcases gV.1 hx with ⟨q1,q2⟩ | rfl
   ·obtain ⟨y,hy,r1,r2⟩:=hM.e2 x q1
    obtain ⟨i,hi,rfl⟩:=List.getElem_of_mem hy;have hij:i≠j:=fun hij=>by
     subst hij;rw [kQ0 hi] at h2;cases h2
     rw [h3] at r1;injection r1 with _ r1;exact q2 r1.symm
    exact ⟨es.toList[i],List.mem_iff_getElem.2 ⟨i,by simpa using hi,by rw [xU,if_neg (Ne.symm hij)]⟩,r1,r2⟩
   ·exact ⟨_,List.mem_iff_getElem.2 ⟨j,by simpa using hjl,by rw [xU,if_pos rfl]⟩,rfl,rfl⟩
  ·rw [hlist,List.pairwise_iff_getElem]
   intro i1 i2 hi1 hi2 hlt;simp only [vA] at hi1 hi2
   have h0:=List.pairwise_iff_getElem.1 hM.nd i1 i2 hi1 hi2 hlt;rw [xU,xU]
   split
   ·rename_i e1
    rw [if_neg (by omega)]
    exact (hother i2 _ (kQ0 hi2) (by omega)).symm
   ·split
    ·exact hother i1 _ (kQ0 hi1) (by omega)
    ·exact h0
  ·obtain ⟨y,hy,q1,q2⟩:=hM.e1 e0 (kQ5 h2)
   have hyk:y.k=e.k:=by rw [h3] at q1;injection q1 with _ q1;exact q1.symm
   rw [hlist,sJ hy hyk,tS];apply List.ext_getElem?;intro i;rw [jA,jA,List.getElem?_set];have hoi:(es.toList.map fun x=>(x.key,x.val))[i]? = (L.map fun e=>(Value.int .i64 e.k,e.val))[i]? := by rw [hM.ord]
   rw [jA,jA] at hoi
   by_cases hij:j=i
   ·subst hij
    rw [if_pos rfl,if_pos hjl];rw [h2] at hoi
    cases hL:L[j]? with
    | none=>rw [hL] at hoi;cases hoi
    | some z =>
     rw [hL] at hoi
     have hz:z.k=e.k:=by
      simp at hoi
      rw [h3] at hoi
      have:=hoi.1;injection this with _ h;exact h.symm
     simp [hz]
   ·rw [if_neg hij]
    cases hL:L[i]? with
    | none=>rw [hL] at hoi;rw [hoi];rfl
    | some z =>
     rw [hL] at hoi
     rw [hoi];have hz:z.k≠e.k:=fun hz=>by
      cases he:es.toList[i]? with
      | none=>rw [he] at hoi;cases hoi
      | some x =>
       rw [he] at hoi
       simp at hoi
       exact hother i x he (fun h=>hij h.symm) (by rw [hoi.1,hz])
     simp [hz]
  ·rw [hlist] at hx
   rcases who x hx with rfl | ⟨q1,_⟩
   ·exact hbn e0 (kQ5 h2)
   ·exact hbn x q1

theorem Ent.owns{e:Ent}(he:e.OK)(h:w.heap[e.b]? = some (.cells e.arr 44 (0,0))):w.ownsRow 0 44 6 e.val e.l.length (e.l.flatten.map (Value.int .i64)) :=
 ⟨by rw [eR,pZ he.u],.inr ⟨e.b,e.cap,e.arr,rfl,Nat.zero_le _,h,he.le,he.cap,he.sz,he.at_⟩⟩
theorem bKs:w.ownsRow 0 44 6 (.slice none 0 0) 0 []:=⟨rfl,.inl ⟨rfl,rfl⟩⟩
theorem bKt{v:Value}{l:Lqq}{k:Int}(hk:(Lit.int .i64 k).wf=true)(hl:l≠[])(hu:uni 6 l)(h:w.ownsRow 0 44 6 v l.length (l.flatten.map (Value.int .i64))):∃ e:Ent,e.k=k∧e.l=l∧e.val=v∧e.OK∧w.heap[e.b]? = some (.cells e.arr 44 (0,0)):=by
 rcases h.2 with ⟨_,h0⟩ | ⟨g,cap,cur,rfl,_,h1,h2,h3,h4,h5⟩
 ·exact absurd (aDe h0) hl
 ·exact ⟨⟨k,l,g,cap,cur⟩,rfl,rfl,rfl,⟨hk,h4,h2,h3,h5,hu⟩,h1⟩
end
end
section
variable {P:Program} {C C0:Cx} {M M0:Mem} {w w0:World}

abbrev SR:=St→List (Nat × Obj)→Prop
section
variable {k:Nat} {a b c:Code} {Ψ Ψ1 Ψ':SR} {e:Ex}
end

theorem Sim.slot{st:St}{a:Act}(h:Sim P C0 M0 w0 st a w){i:Nat}{v:Value}(hi:st.t[i]? = some (.p (.v v))):a.tmps.getD i undef=v:=by
 obtain ⟨C,hS,_⟩:=h;have:=hS.at hi
 cases this with
 | p _ _ h=>cases h;rfl
theorem Sim.size{st:St}{a:Act}(h:Sim P C0 M0 w0 st a w):a.tmps.size=st.t.length:=by
 obtain ⟨C,hS,_⟩:=h;exact hS.size
end
section
variable {P:Program} {ops:Array Oper} {md:Region.Mode} {S:World→Prop} {Q:Exit→Act→World→Prop} {L:Nat}

def sH(P:Program)(md:Region.Mode)(ops:Array Oper)(Q:Exit→Act→World→Prop)(S:World→Prop)(L:Nat):Nat→Array Bool→Act→World→Prop
 | 0,listed,a,w=>Region.ready md ops listed=[]∧Q .normal a w
 | fuel+1,listed,a,w=>(Region.ready md ops listed=[]→Q .normal a w) ∧
  ∀ i∈Region.ready md ops listed,wpOp P ops Q i (fun a' w'=>(i≠L→S w')∧sH P md ops Q S L fuel (listed.setIfInBounds i true) a' w') a w

theorem aEh:∀ (fuel:Nat) (listed:Array Bool) (a:Act) (w:World),sH P md ops Q S L fuel listed a w→wpAny P md ops Q fuel listed a w
 | 0,_,_,_,h=>h
 | fuel+1,_,_,_,h=>⟨h.1,fun i hi=>wpOp_mono (fun a' w' h'=>aEh fuel _ a' w' h'.2) (h.2 i hi)⟩

theorem aKk{i:Nat}{oi:Oper}{v:Value}(hi:ops[i]? = some oi)(hsel:∀ (j:Nat) (o:Oper) cs b,ops[j]? = some o→o.op ≠ .select cs b)
  (hQ:∀ c a w,Q (.panic c) (a.put oi.dst v) w→Q (.panic c) a w) (hL:∀ oL,ops[L]? = some oL→∃ e∈oL.after,Region.binds md e=true∧e.on=i) :
  ∀ (fuel:Nat) (listed:Array Bool) (a:Act) (w:World),
   (∀ j oj,ops[j]? = some oj→j≠i→listed.getD j true=false→(∀ e∈oj.after,Region.binds md e=true→e.on≠i)→oi.apart ops oj=true) →
   i∈Region.ready md ops listed→YieldsIf P ops S oi v a→S w →
   sH P md ops Q S L fuel (listed.setIfInBounds i true) (a.put oi.dst v) w→sH P md ops Q S L (fuel+1) listed a w:=by
 intro fuel
 induction fuel with
 | zero =>
  intro listed a w _ hr hy hS H;refine ⟨fun h=>(by rw [h] at hr;cases hr),fun j hj => ?_⟩
  by_cases hji:j=i
  ·subst hji;exact hy.wpOp hi hS ⟨fun _=>hS,H⟩
  ·have:=ready_mono hj hji
   rw [H.1] at this
   cases this
 | succ fuel ih =>
  intro listed a w hfree hr hy hS H;refine ⟨fun h=>(by rw [h] at hr;cases hr),fun j hj => ?_⟩
  by_cases hji:j=i
  ·subst hji;exact hy.wpOp hi hS ⟨fun _=>hS,H⟩
  ·have h1:=H.2 j (ready_mono hj hji)
   obtain ⟨hjun,oj,hoj,hall⟩:=mem_ready.1 hj;have hnot:∀ e∈oj.after,Region.binds md e=true→e.on≠i:=fun e he hb heq=>by
    have h1:=hall e he hb;have h0:=(mem_ready.1 hr).1;rw [heq] at h1
    rcases Nat.lt_or_ge i listed.size with h' | h'
    ·simp [h'] at h0 h1;rw [h0] at h1;cases h1
    ·simp [Array.getElem?_eq_none h'] at h1
   have hjL:j≠L:=fun e=>by
    subst e;obtain ⟨e,he,hb,ho⟩:=hL oj hoj;exact hnot e he hb ho
   have h2:=wpOp_putIf hoj (hfree j oj hoj hji hjun hnot) (fun cs b=>hsel i oi cs b hi) (fun cs b=>hsel j oj cs b hoj) hQ hy h1
   have hfree':∀ k ok,ops[k]? = some ok→k≠i→(listed.setIfInBounds j true).getD k true=false →
     (∀ e∈ok.after,Region.binds md e=true→e.on≠i)→oi.apart ops ok=true:=fun k ok hk hki hun hno=>by
    refine hfree k ok hk hki ?_ hno
    by_cases hjk:j=k
    ·subst hjk;exact hjun
    ·rw [getD_set_ne true hjk] at hun;exact hun
   refine wpOp_mono (fun a' w' h3=>⟨h3.2.1,ih (listed.setIfInBounds j true) a' w' hfree' (ready_mono hr (Ne.symm hji)) h3.1 (h3.2.1 hjL) ?_⟩) h2
   rw [Array.setIfInBounds_comm _ _ hji];exact h3.2.2

def aKl(P:Program)(S:World→Prop):List (Oper × Value)→Act→Prop
 | [],_=>True
 | (o,v)::r,a=>(∀ W,S W→(execOp a.eval o).run P W = .ok (.value v) W)∧aKl P S r (a.put o.dst v)
def zY:List (Oper × Value)→Act→Act
 | [],a=>a
 | (o,v)::r,a=>zY r (a.put o.dst v)

def aHw(md:Region.Mode)(ops:Array Oper)(L:Nat)(rs:List Nat):List Nat→Array Bool→Bool
 | [],listed=>chain rs listed
 | t::ts,listed=>(match ops[t]? with | some o=>o.guard.isNone | none=>false) && (Region.ready md ops listed).contains t && Region.free md ops listed t &&
   (match ops[L]? with | some oL=>oL.after.any fun e=>Region.binds md e && e.on == t | none=>false) && aHw md ops L rs ts (listed.setIfInBounds t true)
where chain:List Nat→Array Bool→Bool
 | [],listed=>(Region.ready md ops listed).isEmpty
 | r::rs,listed=>(match ops[r]? with | some o=>o.guard.isNone | none=>false) && decide (Region.ready md ops listed=[r]) && chain rs (listed.setIfInBounds r true)

theorem vJ{r fuel:Nat}{listed:Array Bool}{o:Oper}{a:Act}{w:World}(hr:Region.ready md ops listed=[r])(ho:ops[r]? = some o)(hg:o.guard=none){v:Value}{w':World}
  (hrun:(execOp a.eval o).run P w = .ok (.value v) w'∨(execOp a.eval o).run P w = .ok .skip w'∧v=undef) (hS:r≠L→S w') (h:sH P md ops Q S L fuel (listed.setIfInBounds r true) (a.put o.dst v) w'):sH P md ops Q S L (fuel+1) listed a w:=by
 refine ⟨fun h0=>(by rw [hr] at h0;cases h0),fun i hi => ?_⟩
 rw [hr] at hi
 obtain rfl:i=r:=by simpa using hi
 unfold wpOp;simp only [ho];have hw:Region.wanted o (yielded ops a.tmps)=true:=by simp [Region.wanted,hg]
 rw [if_pos hw];refine .inl ?_;unfold Oper.wp
 rcases hrun with hrun | ⟨hrun,rfl⟩
 ·rw [hrun];exact ⟨hS,h⟩
 ·rw [hrun];exact ⟨hS,h⟩

theorem aHx(hsel:Region.noSelect ops=true)(hQ:∀ c a w,¬ Q (.panic c) a w)(rs:List Nat){w:World}(hS:S w):∀ (ts:List Nat) (vs:List Value) (listed:Array Bool) (a:Act),vs.length=ts.length→aHw md ops L rs ts listed=true →
  aKl P S ((ts.filterMap fun i=>ops[i]?).zip vs) a→(∀ listed',aHw.chain md ops rs listed'=true→sH P md ops Q S L rs.length listed' (zY ((ts.filterMap fun i=>ops[i]?).zip vs) a) w)→sH P md ops Q S L (ts.length+rs.length) listed a w
 | [],vs,listed,a,hl,hB,hy,h=>by
  have:vs=[]:=by simpa using hl
  subst this;simp only [List.length_nil,gN];exact h listed hB
 | t::ts,[],listed,a,hl,hB,hy,h=>by simp at hl
 | t::ts,v::vs,listed,a,hl,hB,hy,h=>by
  simp only [aHw,kQ7] at hB
  obtain ⟨⟨⟨⟨hp,hrd⟩,hf⟩,hlast⟩,hB'⟩:=hB;cases ho:ops[t]? with
  | none=>rw [ho] at hp;cases hp
  | some o =>
   rw [ho] at hp
   simp only [Option.isNone_iff_eq_none] at hp
   have e0:(t::ts).filterMap (fun i=>ops[i]?)=o::ts.filterMap (fun i=>ops[i]?):=by simp [ho]
   rw [e0,List.zip_cons_cons] at hy h
   have hw:Region.wanted o (yielded ops a.tmps)=true:=by simp [Region.wanted,hp]
   have e:(t::ts).length+rs.length=(ts.length+rs.length)+1:=by simp;omega
   rw [e];refine aKk ho (Region.noSelect_spec hsel) (fun c a w hq=>absurd hq (hQ _ _ _)) (fun oL hoL => ?_) _ _ _ _ (Region.free_spec ho hf) (by simpa using hrd) (.inl ⟨hw,hy.1⟩) hS ?_
   ·rw [hoL] at hlast
    obtain ⟨e,he,hb⟩:=Array.any_eq_true'.1 hlast;simp only [kQ7,beq_iff_eq] at hb
    exact ⟨e,he,hb.1,hb.2⟩
   ·exact aHx hsel hQ rs hS ts vs _ _ (by simpa using hl) hB' hy.2 h

def aKm(l:List Oper)(ts:List Nat)(r1 r2 r3:Nat):Bool :=
 Region.noSelect l.toArray && aHw .any l.toArray r3 [r1,r2,r3] ts (Array.replicate l.toArray.size false) && decide (ts.length+3=l.toArray.size) && decide (r1≠r3∧r2≠r3)

theorem bN{a:Act}{i:Nat}{v:Value}(h:i<a.tmps.size):(a.put (some i) v).eval (.tmp i)=v:=by
 simp [Act.eval,Act.put,h]
theorem bQ{a:Act}{i j:Nat}{v:Value}(h:(i == j)=false):(a.put (some i) v).eval (.tmp j)=a.eval (.tmp j):=by
 have:i≠j:=by simpa using h
 simp [Act.eval,Act.put,this]
theorem dO{a:Act}{i:Nat}{v:Value}:(a.put (some i) v).tmps.size=a.tmps.size:=by simp [Act.put]
end
section
open Go.Maps Go.MapKept
open Go.ChangeMaps (setBlock)
variable {P:Program} {C C0:Cx} {M M0:Mem} {w w0:World}

section
variable {o:Oper} {a:Act} {W W':World}
theorem qK{t:TypeId}{x:Operand}{v r:Value}(ho:o.op = .load t x)(hx:a.eval x=v)(hr:(Instr.loadAt t v).run P W = .ok r W):(execOp a.eval o).run P W = .ok (.value r) W:=by
 unfold execOp;rw [ho];simp [hx,hr,Result.andThen]
theorem bDf{t:TypeId}{x k:Operand}{v u r:Value}(ho:o.op = .lookup t x k false)(hx:a.eval x=v)(hk:a.eval k=u)(hr:(Instr.lookup t v u false).run P W = .ok r W):(execOp a.eval o).run P W = .ok (.value r) W:=by
 unfold execOp;rw [ho];simp [hx,hk,hr,Result.andThen]
theorem bDg{t:TypeId}{x:Operand}{v r:Value}(ho:o.op = .buildSlice t 1 #[(0,x)])(hx:a.eval x=v)(hr:(Instr.buildSlice t 1 #[(0,v)]).run P W = .ok r W'):(execOp a.eval o).run P W = .ok (.value r) W':=by
 unfold execOp;rw [ho];simp [hx,hr,Result.andThen]
theorem bDh{t:TypeId}{s x:Operand}{v u r:Value}(ho:o.op = .call { callee := .builtin .append,args := #[s,x],argTypes := #[t,t] })(hs:a.eval s=v)(hx:a.eval x=u)(hr:(Builtin.append_ #[t,t] o.type #[v,u]).run P W = .ok r W') :
  (execOp a.eval o).run P W = .ok (.value r) W':=by
 unfold execOp;simp only [ho,resolve,invoke,builtin,Sem.run_bind,Sem.run_pure,Result.andThen_ok,List.map_toArray,gZ,List.map_nil,hs,hx,hr]
theorem bDi{t:TypeId}{m k x:Operand}{v u y:Value}(ho:o.op = .mapUpdate t m k x)(hm:a.eval m=v)(hk:a.eval k=u)(hx:a.eval x=y)(hr:(Instr.mapUpdate t v u y).run P W = .ok () W'):(execOp a.eval o).run P W = .ok .skip W':=by
 unfold execOp;rw [ho];simp [hm,hk,hx,hr,Result.andThen]
end

theorem yJ{t:Nat}{i:TI}(hi:cJ P t=some i)(ha:i.agg=false){b o:Nat}{v:Value}(h:w.cell? ⟨b,o,none⟩=some v):(Instr.loadAt t (.pointer (some ⟨b,o,none⟩))).run P w = .ok v w:=by
 unfold Instr.loadAt Instr.sureAddr;simpa using lQ hi ha h

def iL(mb:Nat)(es:Array MapEntry)(cl:Nat)(L:List Ent):List (Nat × Obj):=(mb,.map es cl)::L.map Ent.blk
theorem cZ{mb:Nat}{es:Array MapEntry}{cl:Nat}{L:List Ent}{p:Nat × Obj}:p∈iL mb es cl L↔p=(mb,.map es cl)∨∃ e∈L,e.blk=p:=by simp [iL]
def pJ(L:List Ent)(k:Int):Lqq:=match sI L k with
 | some e=>e.l
 | none=>[]
theorem xA{α β:Type}(f:α→β){x y:α}:∀ (L:List α),(L.map f).Nodup→x∈L→y∈L→f x=f y→x=y
 | [],_,h,_,_=>by simp at h
 | a::r,hn,hx,hy,he=>by
  rw [gZ,List.nodup_cons] at hn
  rcases jH.1 hx with e1 | h1
  ·rcases jH.1 hy with e2 | h2
   ·rw [e1,e2]
   ·exact absurd (kQ9.2 ⟨y,h2,by rw [← he,e1]⟩) hn.1
  ·rcases jH.1 hy with e2 | h2
   ·exact absurd (kQ9.2 ⟨x,h1,by rw [he,e2]⟩) hn.1
   ·exact xA f r hn.2 h1 h2 he
theorem mI.b_inj{mb:Nat}{es:Array MapEntry}{L:List Ent}(h:mI mb es L){e e':Ent}(he:e∈L)(he':e'∈L)(hb:e.b=e'.b):e=e':=xA (·.b) L (List.nodup_cons.1 h.blks).2 he he' hb
theorem mI.b_mb{mb:Nat}{es:Array MapEntry}{L:List Ent}(h:mI mb es L){e:Ent}(he:e∈L):e.b≠mb:=fun hb=>(List.nodup_cons.1 h.blks).1 (kQ9.2 ⟨e,he,hb⟩)

abbrev zD6:Value := .agg #[.int .i64 0,.int .i64 0,.int .i64 0,.int .i64 0,.int .i64 0,.int .i64 0]
def vsL(x:List Int):List Value:=x.map (Value.int .i64)
theorem bDj(w:World)(x:List Int):∀ j u,(vsL x)[j]? = some u→(w.alloc (.cells (vsL x).toArray 44)).cell? ((⟨w.heap.size,0,none⟩:Addr).add j)=some u:=fun j u h=>by
 have hj:j<(vsL x).length:=(kQ3.1 h).1;have e:(⟨w.heap.size,0,none⟩:Addr).add j=⟨w.heap.size,j,none⟩:=by unfold Addr.add;split <;> simp_all
 rw [e];unfold World.cell? World.alloc;simp [h]
theorem bRa{t kt:TypeId}{S22 ty:TypeId}{st:St}{a:Act}{mb cl:Nat}{es:Array MapEntry}{L:List Ent}{k:Int}{x:List Int}(hx6:x.length=6)(ht:P.underlying t=some (.map kt S22))(hkt:P.underlying kt=some (.int .i64))(h22:P.underlying S22=some (.slice 44))
  (hi3:(P.info? 44).map (fun i=>(i.zero,i.size,i.bytes))=some (some zD6,6,48))
  (hs:Sim P (C0.with (iL mb es cl L++C0.R)) M0 w0 st a w) (hd:∀ p∈iL mb es cl L,∀ q∈C0.R,p.1≠q.1) (hM:mI mb es L) (hk:(Lit.int .i64 k).wf=true) (hl:∀ e∈L,e.l.length≤1000) :
  ∃ v2 w2 es' cl' e,(Builtin.append_ #[S22,S22] ty #[qX L k,.slice (some ⟨w.heap.size,0,none⟩) 1 1]).run P (w.alloc (.cells (vsL x).toArray 44)) = .ok v2 w2 ∧
   (∀ b,b<w.heap.size→(∀ q∈iL mb es cl L,q.1≠b)→w2.heap[b]? = w.heap[b]?)∧w2.heap[mb]? = w.heap[mb]? ∧
   (w.heap.size≤w2.heap.size∧((∀ x∈es.toList,x.born<cl)→∀ x∈es'.toList,x.born<cl')∧∀ p∈iL mb es' cl' (pK L e),(∃ p0∈iL mb es cl L,p0.1=p.1)∨w.heap.size≤p.1) ∧
   (Instr.mapUpdate t (.map (some mb)) (.int .i64 k) v2).run P w2 = .ok () (setBlock w2 mb (.map es' cl'))∧mI mb es' (pK L e)∧e.k=k∧e.l=pJ L k++[x] ∧
   (∀ p∈iL mb es' cl' (pK L e),∀ q∈C0.R,p.1≠q.1)∧Sim P (C0.with (iL mb es' cl' (pK L e)++C0.R)) M0 w0 st a (setBlock w2 mb (.map es' cl')):=by
 obtain ⟨i,hi,hz,hz1,hz2⟩:=info_parts hi3;have hhas:=hs.has;have hmb:w.heap[mb]? = some (.map es cl):=hhas (mb,.map es cl) (by simp [iL])
 have hmlt:=cA hmb;have hblkh:∀ e∈L,w.heap[e.b]? = some (.cells e.arr 44 (0,0)):=fun e he=>hhas e.blk (by simp [iL];exact .inr (.inl ⟨e,he,rfl⟩))
 obtain ⟨n1,n2,n3⟩:=jO w (.cells (vsL x).toArray 44);have hown:(w.alloc (.cells (vsL x).toArray 44)).ownsRow 0 44 6 (qX L k) (pJ L k).length ((pJ L k).flatten.map (Value.int .i64))∧((qX L k).ownBlock=none∨∃ e0∈L,e0.k=k∧(qX L k).ownBlock=some e0.b)∧(pJ L k).length≤1000:=by
  unfold qX pJ;cases h:sI L k with
  | none=>exact ⟨bKs,.inl rfl,by simp⟩
  | some e0 =>
   obtain ⟨q1,q2⟩:=vK h;exact ⟨Ent.owns (hM.ok e0 q1) ((n3 _ (cA (hblkh e0 q1))).trans (hblkh e0 q1)),.inr ⟨e0,q1,q2,rfl⟩,hl e0 q1⟩
 obtain ⟨ho,hbk,hlen⟩:=hown;have hu6:uni 6 (pJ L k++[x]):=by
  intro y hy
  rcases jB.1 hy with h | h
  ·unfold pJ at h
   cases hq:sI L k with
   | none=>rw [hq] at h;cases h
   | some e0=>rw [hq] at h;exact (hM.ok e0 (vK hq).1).u y h
  ·simp at h;rw [h];exact hx6
 obtain ⟨v2,w2,hrun,ho2,hg2,hnil,hat⟩:=run_append_own_at (P:=P) (w:=w.alloc (.cells (vsL x).toArray 44)) 0 S22 ty 44 i zD6 6 48 h22 hi hz hz1 hz2 rfl (by decide) (qX L k) (pJ L k).length _ ho
  ⟨w.heap.size,0,none⟩ 1 1 (vsL x) (by simp [vsL,hx6]) (bDj w x) (fun u hu=>by obtain ⟨z,_,rfl⟩:=kQ9.1 hu;rfl) (by unfold maxLen;omega) (by omega) (Nat.zero_le _)
 have ho2':w2.ownsRow 0 44 6 v2 (pJ L k++[x]).length ((pJ L k++[x]).flatten.map (Value.int .i64)):=by
  rw [kT,bHo,gJ,List.flatten_singleton];exact ho2
 obtain ⟨e,rfl,hel,rfl,heo,heh⟩:=bKt hk (by simp) hu6 ho2'
 have hvb:e.val.ownBlock=some e.b:=rfl;have hwhere:(∃ e0∈L,e0.k=e.k∧e0.b=e.b)∨e.b=w.heap.size+1:=by
  rcases hat with h | h
  ·rcases hbk with h0 | ⟨e0,q1,q2,q3⟩
   ·rw [h0,hvb] at h;cases h
   ·rw [q3,hvb] at h;exact .inl ⟨e0,q1,q2,(Option.some.inj h).symm⟩
  ·rw [hvb] at h
   right
   have:=Option.some.inj h;rw [this];simp
 have hrow:∀ b,b<w.heap.size→(∀ e0∈L,e0.k=e.k→e0.b≠b)→w2.heap[b]? = w.heap[b]? := fun b hb hno=>by
  refine (hg2.block b (by omega) (fun he => ?_)).trans (n3 b hb)
  rcases hbk with h0 | ⟨e0,q1,q2,q3⟩
  ·rw [h0] at he;cases he
  ·rw [q3] at he;exact hno e0 q1 q2 (Option.some.inj he).symm
 have hblk:e.b≠mb∧∀ y∈L,y.k≠e.k→y.b≠e.b:=by
  rcases hwhere with ⟨e0,q1,q2,q3⟩ | h
  ·refine ⟨q3 ▸ hM.b_mb q1,fun y hy hyk hb=>hyk ?_⟩
   have:=hM.b_inj hy q1 (hb.trans q3.symm);rw [this];exact q2
  ·refine ⟨by omega,fun y hy _ hb => ?_⟩
   have:=cA (hblkh y hy);omega
 have hmb2:w2.heap[mb]? = w.heap[mb]? := hrow mb hmlt fun e0 he0 _=>hM.b_mb he0
 obtain ⟨es',cl',hup,hM',hbn⟩:=bRb (P:=P) (w:=w2) ht hkt (hmb2.trans hmb) hM e heo hblk;refine ⟨e.val,w2,es',cl',e,hrun,fun b hb hno=>hrow b hb fun e0 he0 _=>hno e0.blk (by simp [iL];exact .inr ⟨e0,he0,rfl⟩),hmb2,⟨by have:=hg2.size;omega,hbn,fun p hp => ?_⟩,hup,hM',rfl,hel,?_,?_⟩
 ·rcases cZ.1 hp with rfl | ⟨y,hy,rfl⟩
  ·exact .inl ⟨_,cZ.2 (.inl rfl),rfl⟩
  ·rcases gV.1 hy with ⟨q1,_⟩ | rfl
   ·exact .inl ⟨_,cZ.2 (.inr ⟨y,q1,rfl⟩),rfl⟩
   ·rcases hwhere with ⟨e0,r1,_,r3⟩ | h
    ·exact .inl ⟨_,cZ.2 (.inr ⟨e0,r1,rfl⟩),r3⟩
    ·exact .inr (by show w.heap.size≤y.b;omega)
 ·intro p hp q hq
  rcases cZ.1 hp with rfl | ⟨y,hy,rfl⟩
  ·exact hd (mb,.map es cl) (by simp [iL]) q hq
  ·rcases gV.1 hy with ⟨q1,q2⟩ | rfl
   ·exact hd y.blk (cZ.2 (.inr ⟨y,q1,rfl⟩)) q hq
   ·rcases hwhere with ⟨e0,q1,q2,q3⟩ | h
    ·exact fun hpq=>hd e0.blk (cZ.2 (.inr ⟨e0,q1,rfl⟩)) q hq (by rw [← hpq];exact q3)
    ·have:=cA (hhas q (aDf _ hq))
     intro hpq;change y.b=q.1 at hpq
     omega
 ·have hne:∀ p∈C0.R,p.1≠mb∧∀ e0∈L,p.1≠e0.b:=fun p hp=>⟨fun h=>hd (mb,.map es cl) (by simp [iL]) p hp h.symm,fun e0 he0 h=>hd e0.blk (cZ.2 (.inr ⟨e0,he0,rfl⟩)) p hp h.symm⟩
  have hset:∀ b,b≠mb→(setBlock w2 mb (.map es' cl')).heap[b]? = w2.heap[b]? := fun b hb=>by
   unfold setBlock;simp only [Array.getElem?_setIfInBounds];rw [if_neg (Ne.symm hb)]
  have hsetm:(setBlock w2 mb (.map es' cl')).heap[mb]? = some (.map es' cl'):=by
   unfold setBlock;have:mb<w2.heap.size:=cA (hmb2.trans hmb);simp [this]
  refine hs.beside (fun b=>b=mb∨∃ e0∈L,e0.k=e.k∧e0.b=b) (fun b hb => ?_) hg2.os hg2.tape hg2.output (by have:=hg2.size;unfold setBlock;simp only [Array.size_setIfInBounds];omega) (fun b hb hX => ?_) (fun p hp => ?_)
  ·rcases hb with rfl | ⟨e0,q1,q2,rfl⟩
   ·exact ⟨_,nZ _ (cZ.2 (.inl rfl))⟩
   ·exact ⟨_,nZ _ (cZ.2 (.inr ⟨e0,q1,rfl⟩))⟩
  ·rw [hset b (fun h=>hX (.inl h))]
   exact hrow b hb fun e0 q1 q2 q3=>hX (.inr ⟨e0,q1,q2,q3⟩)
  ·rcases jB.1 hp with hp | hp
   ·rcases cZ.1 hp with rfl | ⟨y,hy,rfl⟩
    ·exact .inr ⟨hsetm,(fun h=>by cases h),.inr ⟨_,nZ _ (cZ.2 (.inl rfl))⟩⟩
    ·rcases gV.1 hy with ⟨q1,q2⟩ | rfl
     ·refine .inl ⟨nZ _ (cZ.2 (.inr ⟨y,q1,rfl⟩)),fun hX => ?_⟩
      rcases hX with hX | ⟨e0,r1,r2,r3⟩
      ·exact hM.b_mb q1 hX
      ·have:=hM.b_inj q1 r1 r3.symm
       exact q2 (this ▸ r2)
     ·refine .inr ⟨(hset _ hblk.1).trans heh,(fun h=>by cases h),?_⟩
      rcases hwhere with ⟨e0,r1,r2,r3⟩ | h
      ·exact .inr ⟨.cells e0.arr 44 (0,0),nZ _ (cZ.2 (.inr ⟨e0,r1,by unfold Ent.blk;rw [r3]⟩))⟩
      ·exact .inl (by show w.heap.size≤y.b;omega)
   ·refine .inl ⟨aDf _ hp,fun hX => ?_⟩
    rcases hX with hX | ⟨e0,r1,r2,r3⟩
    ·exact (hne p hp).1 hX
    ·exact (hne p hp).2 e0 r1 r3.symm
end
section
open Go.ChangeMaps (setBlock)
variable {P:Program} {C:Cx} {M:Mem} {w:World}

def aFu(P:Program)(C:Cx)(M:Mem)(w:World)(C':Cx)(M':Mem)(W:World):Prop:=(∀ b,C'.F b↔C.F b)∧aR P C' M' W∧Fr C M w C' M' W
def aKj(M M':Mem):Prop:=(∀ (i:Nat) (es:List (Value × PV)) (cl:Nat),M'[i]? = some (some (.mp es cl))→∃ o,M[i]? = some (some o)∧o.live=true)∧aQc M'

theorem aFu.same{M':Mem}{W W':World}{C':Cx}(hn:aKj M M')(hM0:aR P C M w)(h:aFu P C M w C' M' W)(hsz:W.heap.size≤W'.heap.size)(ho:W'.os=W.os)(ht:W'.tape=W.tape)(hu:W'.output=W.output)
  (hs:∀ b,b<W.heap.size→(b<w.heap.size∧(∀ (id:Nat) (o:AO),M[id]? = some (some o)→o.live=true→C.ι id=some b→∃ o',M'[id]? = some (some o')∧o'.live=true))∨(mF W b∧∃ (id:Nat) (o:AO),M'[id]? = some (some o)∧o.live=true∧C'.ι id=some b)→W'.heap[b]? = W.heap[b]?):aFu P C M w C' M' W':=by
 obtain ⟨hF,hM,f⟩:=h;have old:∀ (i:Nat) (o:AO),M[i]? = some (some o)→C'.ι i=C.ι i:=fun i o h=>(f.ids i o h).2.1
 have hFz:∀ b,C'.F b→W'.heap[b]? = W.heap[b]? := fun b hb=>hs b (hM.Fs b hb) (.inl ⟨hM0.Fs b ((hF b).1 hb),fun id o ho hl he=>absurd ((hF b).1 hb) (hM0.nF id o b ho hl he)⟩)
 have hL:Le C' C' M' M' W W':=⟨fun _ o h=>⟨o,h⟩,fun _ _ _ _ _ cs h=>⟨cs,h⟩,fun _ o h o' h' hl=>by rw [h] at h';cases h';exact ⟨hl,rfl,rfl⟩,fun _ h=>h,hFz⟩
 refine ⟨hF,⟨fun i ty n cs hm => ?_,fun i ty cs hm => ?_,fun i es cl hm => ?_,hM.inj,hM.nF,fun b hb=>kQ8 (hM.Fs b hb) hsz,fun i o b ho hl hb=>kQ8 (hM.lt i o b ho hl hb) hsz⟩,
  ⟨ho.trans f.os,ht.trans f.tape,hu.trans f.out,fT f.size hsz,fun b hb hno=>(hs b (kQ8 hb f.size) (.inl ⟨hb,fun id o ho hl he=>absurd he (hno id o ho hl)⟩)).trans (f.keep b hb hno),f.ids,f.row,f.liv,f.new,f.F1,f.F2⟩⟩
 ·rcases hM.row _ _ _ _ hm with h4 | ⟨b,arr,inf,q0,q1,q2,q3,q4,q5,q6,q7,q8⟩
  ·exact .inl h4
  ·exact .inr ⟨b,arr,inf,q0,(hs b (cA q1) (.inr ⟨fN q1,i,_,hm,rfl,q0⟩)).trans q1,q2,q3,q4,q5,q6,fun j hj=>(q7 j hj).mono hL.F hL.fz,q8⟩
 ·obtain ⟨b,arr,q0,q1,q2,q3,q4⟩:=hM.box _ _ _ hm
  exact ⟨b,arr,q0,(hs b (cA q1) (.inr ⟨fN q1,i,_,hm,rfl,q0⟩)).trans q1,q2,fun j hj=>(q3 j hj).mono hL,q4⟩
 ·obtain ⟨b,arr,q0,q1,q2,q3⟩:=hM.mp _ _ _ hm
  obtain ⟨o,ho',hl⟩:=hn.1 _ _ _ hm;have hb:C.ι i=some b:=by rw [← old i o ho'];exact q0
  refine ⟨b,arr,q0,(hs b (cA q1) (.inl ⟨hM0.lt i o b ho' hl hb,fun id o2 ho2 hl2 he => ?_⟩)).trans q1,q2,fun j hj => ?_⟩
  ·obtain rfl:=hM0.inj id i o2 o b ho2 hl2 ho' hl he hb
   exact ⟨_,hm,rfl⟩
  ·obtain ⟨en,r1,r2,r3,r4⟩:=q3 j hj
   exact ⟨en,r1,r2,r3,r4.mono hL.F hL.fz⟩

theorem aFu.own{M':Mem}{W W':World}{C':Cx}{row:Option Nat}(hn:aKj M M')(hM0:aR P C M w)(h:aFu P C M w C' M' W)(hg:W.grownBy W' row)
  (hr:∀ r,row=some r→w.heap.size≤r∧∃ o:Obj,W.heap[r]? = some o∧o.isCells=false):aFu P C M w C' M' W' :=
 h.same hn hM0 hg.size hg.os hg.tape hg.output fun b hb hd=>hg.block b hb fun e=>by
  obtain ⟨q1,o,q2,q3⟩:=hr b e.symm
  rcases hd with ⟨hd,_⟩ | ⟨hd,_⟩
  ·omega
  ·exact jQ q2 q3 hd
end
end KV
end Go.Proofs
section
namespace Go.Proofs
open Go.RowKit Go.Lib
namespace KV
attribute [local go_sem] Oper.semAt_some

def bk(n i:Nat):List Nat:=((List.range n).drop i).reverse
theorem bQy{n i:Nat}(h:i<n):bk n i=bk n (i+1)++[i]:=by
 unfold bk;rw [aZb (by simpa using h),List.reverse_cons]
 simp
theorem bXs(n:Nat):bk n n=[]:=by unfold bk;rw [List.drop_eq_nil_of_le (by simp)];rfl
theorem bQz(n:Nat):bk n 0=(List.range n).reverse:=rfl
theorem aTt{n i:Nat}:(bk n i).length=n-i:=by simp [bk]
theorem bDe{n i:Nat}(h:i≤n):bk n i <+: bk n 0:=by
 unfold bk;rw [List.drop_zero];refine ⟨((List.range n).take i).reverse,?_⟩;rw [← List.reverse_append,aZc]
theorem cBf{n i:Nat}(h:i<n):(bk n (i+1)).length<(bk n 0).length:=by rw [aTt,aTt];omega
end KV
end Go.Proofs
end
section
namespace Go.Proofs
open Go.RowKit Go.Lib Go.Shelf
namespace KV
attribute [local go_sem] Oper.semAt_some
def Hid(p:Prop):Prop:=p
theorem hid{p:Prop}(h:p):Hid p:=h
theorem Hid.out{p:Prop}(h:Hid p):p:=h
def vals6(x:List Int):Array Value:=(x.map (Value.int .i64)).toArray
set_option maxRecDepth 1000000 in
set_option maxHeartbeats 2000000 in
theorem aTr(dc:Lqq)(hl:dc.length≤1000)(F0:Nat→Prop)(n l b1 o1 b2 o2 cap:Nat)(hn:1≤n)(J Jx:List Nat→World→Prop)
  (hY:∀ pre (k:Nat) (a b c d e f:Int) W,dc[k]? = some [a,b,c,d,e,f]→J pre W→pre.length<(bk dc.length 0).length→YieldAt Fence.wide (n-1) Tp l #[.int .i64 k,.agg #[.int .i64 a,.int .i64 b,.int .i64 c,.int .i64 d,.int .i64 e,.int .i64 f]] W fun e W' =>
   (e = .returned (.bool true)∧J (pre++[k]) W'∧KpG F0 W W')∨(e = .returned (.bool false)∧Jx (pre++[k]) W'))
  (W:World) (hJ:AbidesFrom W.heap.size J) (hF:∀ b,F0 b→b<W.heap.size)
  (hc:∀ W',KpG F0 W W'→∀ k:Nat,k<dc.length→∃ a b c d e f,dc[k]? = some [a,b,c,d,e,f]∧W'.cell? ⟨b2,o2+k*6,none⟩=some (.int .i64 a)∧W'.cell? ⟨b2,o2+k*6+1,none⟩=some (.int .i64 b)∧W'.cell? ⟨b2,o2+k*6+2,none⟩=some (.int .i64 c)∧W'.cell? ⟨b2,o2+k*6+3,none⟩=some (.int .i64 d)∧W'.cell? ⟨b2,o2+k*6+4,none⟩=some (.int .i64 e)∧W'.cell? ⟨b2,o2+k*6+5,none⟩=some (.int .i64 f))
  (hk:∀ W',KpG F0 W W'→W'.cell? ⟨b1,o1,none⟩=some (.slice (some ⟨b2,o2,none⟩) dc.length cap)) (h0:J [] W) :
  CallsIn Fence.wide n Tp 187 #[.func (.yield l) #[] #[],.pointer (some ⟨b1,o1,none⟩)] W fun e W'=>(∃ v,e = .returned v) ∧
   ((∃ ys,ys=bk dc.length 0∧J ys W')∨(∃ pre,pre <+: bk dc.length 0∧Jx pre W')):=by
 have HJ:=hid hJ;have HY:=hid hY;have HC:=hid hc;have HKC:=hid hk;have HF0:=hid hF;have HJ0:=hid h0;have k0:=hk W (KpG.refl _ _);clear hJ hY hc h0 hk hF;refine callsIn_of_wp Tryz.func187 rfl trivial ?_ rfl;simp only [Tryz.ntmps187,List.size_toArray,qZ,List.length_nil,Nat.reduceAdd,Nat.reduceSub,Array.replicate_succ,Array.replicate_zero,List.push_toArray,List.append_toArray,List.nil_append,List.cons_append]
 gi_wp2
 clear k0
 gi_loopw [3] (fun i wr=>∃ k:Nat,k≤dc.length∧i = .int .i64 ((k:Int)-1)∧J (bk dc.length k) wr∧KpG F0 W wr)
  (fun i _=>(intOf i+1).toNat)
 case atStart=>exact ⟨dc.length,dM _,by go_num,by rw [bXs];exact HJ0.out,KpG.refl _ _⟩
 case round =>
  obtain ⟨k,hk,rfl,hJk,hK⟩:=hrel;have HJK:=hid hJk;have HK:=hid hK;have k0:=HKC.out wr hK;have HFR:=hid (fun b (hb:F0 b)=>kQ8 (HF0.out b hb) HK.out.size)
  clear hJk hK
  rcases Nat.eq_zero_or_pos k with rfl | hpos
  ·gi_wp2
   go_end0
   exact ⟨⟨_,rfl⟩,.inl ⟨_,rfl,HJK.out⟩⟩
  ·obtain ⟨k,rfl⟩:∃ j,k=j+1:=⟨k-1,by omega⟩
   have e1:((k+1:Nat):Int)-1=(k:Int):=by omega
   have hlt:(k:Int)<(dc.length:Int):=by omega
   have hlt2:(dc.length:Int)≤1000:=by omega
   rw [e1];obtain ⟨a,b,c,d,e,f,hx0,c0,c1,c2,c3,c4,c5⟩:=HC.out wr HK.out k (by omega)
   have HL:=hid (cBf (n:=dc.length) (i:=k) (by omega))
   have HB:=hid (bQy (n:=dc.length) (i:=k) (by omega))
   have HP:=hid (bDe (n:=dc.length) (i:=k) (by omega))
   have hge:(k:Int) ≥ 0:=by omega
   obtain ⟨fn,tmps,assign,body,hy,hR⟩:=HY.out _ k a b c d e f wr hx0 HJK.out HL.out;clear hx0
   gi_wp2_with (refine hR.mono ?_;clear hR;rintro e w3 (⟨rfl,hJ3,hK3⟩ | ⟨rfl,hx⟩))
   ·go_roundw
    case rel=>exact ⟨k,by omega,by go_num,by rw [HB.out];exact hJ3,HK.out.trans hK3⟩
    case measure=>simp [intOf]
   ·refine bodyPost_ret (results_none rfl _ _ _) rfl ?_
    exact ⟨⟨_,rfl⟩,.inr ⟨bk dc.length (k+1)++[k],HB.out ▸ HP.out,hx⟩⟩
set_option maxRecDepth 1000000 in
set_option maxHeartbeats 2000000 in
theorem aTs(n l b1 o1 cap:Nat)(p:Option Addr)(hn:1≤n)(J:World→Prop)(W:World)(hk:W.cell? ⟨b1,o1,none⟩=some (.slice p 0 cap))(h0:J W) :
  CallsIn Fence.wide n Tp 187 #[.func (.yield l) #[] #[],.pointer (some ⟨b1,o1,none⟩)] W fun e W'=>(∃ v,e = .returned v)∧J W':=by
 have HJ0:=hid h0;have k0:=hk;clear h0 hk;refine callsIn_of_wp Tryz.func187 rfl trivial ?_ rfl;simp only [Tryz.ntmps187,List.size_toArray,qZ,List.length_nil,Nat.reduceAdd,Nat.reduceSub,Array.replicate_succ,Array.replicate_zero,List.push_toArray,List.append_toArray,List.nil_append,List.cons_append]
 gi_wp2
 clear k0
 gi_loopw [3] (fun i wr=>i = .int .i64 (-1)∧J wr) (fun i _=>(intOf i+1).toNat)
 case atStart=>exact ⟨by go_num,HJ0.out⟩
 case round =>
  obtain ⟨rfl,hJk⟩:=hrel;have HJK:=hid hJk;clear hJk
  gi_wp2
  go_end0
  exact ⟨⟨_,rfl⟩,HJK.out⟩
end KV
end Go.Proofs
end
namespace Go.Proofs
namespace KV
section
variable {P:Program} {ops:Array Oper} {md:Region.Mode} {Q:Exit→Act→World→Prop} {F:Fence} {n:Nat}

def VS(P:Program)(m:Sem Next):Prop:=∀ w,(∃ v w',m.run P w = .ok (.value v) w')∨(∃ w',m.run P w = .ok .skip w')∨∃ x w',m.run P w = .halt x w'
theorem VS.val(m:Sem Value):VS P (do pure (.value (← m))):=fun w=>by
 cases h:m.run P w with
 | ok v w'=>exact .inl ⟨v,w',by simp [h,Result.andThen]⟩
 | halt x w'=>exact .inr (.inr ⟨x,w',by simp [h,Result.andThen]⟩)
theorem VS.unit(m:Sem Unit):VS P (do m;pure .skip):=fun w=>by
 cases h:m.run P w with
 | ok v w'=>exact .inr (.inl ⟨w',by simp [h,Result.andThen]⟩)
 | halt x w'=>exact .inr (.inr ⟨x,w',by simp [h,Result.andThen]⟩)
theorem VS.bind{α:Type}(m:Sem α)(f:α→Sem Next)(h:∀ x,VS P (f x)):VS P (m >>= f):=fun w=>by
 cases e:m.run P w with
 | ok v w' =>
  rcases h v w' with ⟨u,w2,q⟩ | ⟨w2,q⟩ | ⟨x,w2,q⟩
  ·exact .inl ⟨u,w2,by simp [e,Result.andThen,q]⟩
  ·exact .inr (.inl ⟨w2,by simp [e,Result.andThen,q]⟩)
  ·exact .inr (.inr ⟨x,w2,by simp [e,Result.andThen,q]⟩)
 | halt x w'=>exact .inr (.inr ⟨x,w',by simp [e,Result.andThen]⟩)
theorem VS.pure(v:Value):VS P (Pure.pure (.value v):Sem Next):=fun w => .inl ⟨v,w,rfl⟩
def zX(o:Oper):Bool:=match o.op with
 | .move _=>true
 | .assign _=>true
 | .indexAddr _ _ _=>true
 | .fieldAddr _ _ _=>true
 | .field _ _ _=>true
 | .load _ _=>true
 | .store _ _ _=>true
 | .lookup _ _ _ _=>true
 | .buildSlice _ _ _=>true
 | .mapUpdate _ _ _ _=>true
 | .nilCheck _=>true
 | .call c=>match c.callee with
  | .builtin .append=>true
  | _=>false
 | _=>false
theorem bQx{o:Oper}(h:zX o=true)(ρ:Operand→Value):VS P (execOp ρ o):=by
 unfold zX at h
 unfold execOp;cases ho:o.op <;> rw [ho] at h <;> first | exact absurd h Bool.false_ne_true | exact VS.val _ | exact VS.unit _ | skip
 case move x=>exact fun w => .inl ⟨_,w,rfl⟩
 case assign x=>exact fun w => .inl ⟨_,w,rfl⟩
 case nilCheck x =>
  dsimp only
  split
  ·exact fun w => .inr (.inr ⟨_,_,rfl⟩)
  ·exact fun w => .inr (.inr ⟨_,_,rfl⟩)
  ·exact fun w => .inr (.inr ⟨_,_,rfl⟩)
  ·split
   ·exact fun w => .inr (.inr ⟨_,_,rfl⟩)
   ·refine VS.bind _ _ fun p=>VS.bind _ _ fun q => ?_
    split
    ·exact VS.bind _ _ fun _=>VS.pure _
    ·exact VS.pure _
   ·exact VS.pure _
  ·exact VS.pure _
 case call c =>
  dsimp only at h
  show VS P (resolve ρ c o.type >>= fun d=>invoke d.target d.args)
  split at h
  ·rename_i hc
   unfold resolve;rw [hc];exact VS.val _
  ·cases h
theorem aTq{o:Oper}(h:zX o=true):∀ c,o.op ≠ .defer c:=fun c hc=>by unfold zX at h;rw [hc] at h;cases h

theorem aOm(hall:∀ f,F.fn f){i:Nat}{K:Act→World→Prop}{a:Act}{w:World}(hL:¬ LetsOut Q)(hc:∀ o,ops[i]? = some o→zX o=true)(h:wpOp P ops Q i K a w):wpOpIn F n P ops Q i K a w:=by
 unfold wpOp at h
 unfold wpOpIn;cases ho:ops[i]? with
 | none=>rw [ho] at h;exact h
 | some o =>
  rw [ho] at h
  dsimp only at h ⊢
  split
  ·rename_i hw
   rw [if_pos hw] at h
   rcases h with h | h
   ·unfold Oper.wp at h
    unfold Oper.wpIn;refine ⟨fun f _=>hall f,?_⟩
    rw [Oper.semAt_plain _ _ _ (aTq (hc o ho))]
    rcases bQx (P:=P) (hc o ho) a.eval w with ⟨v,w',e⟩ | ⟨w',e⟩ | ⟨x,w',e⟩
    ·rw [e] at h ⊢;exact h
    ·rw [e] at h ⊢;exact h
    ·rw [e] at h ⊢
     cases x <;> first | exact h | exact h.elim
   ·exact absurd h.2 hL
  ·rename_i hw
   rw [if_neg hw] at h
   exact ⟨fun f _=>hall f,h⟩
theorem wZ(hall:∀ f,F.fn f)(hL:¬ LetsOut Q)(hc:∀ (i:Nat) (o:Oper),ops[i]? = some o→zX o=true):∀ (fuel:Nat) (listed:Array Bool) (a:Act) (w:World),wpAny P md ops Q fuel listed a w→wpAnyIn F n P md ops Q fuel listed a w
 | 0,_,_,_,h=>h
 | fuel+1,listed,a,w,h=>⟨h.1,fun i hi=>wpOpIn_mono (fun a' w' h'=>wZ hall hL hc fuel _ a' w' h') (aOm hall hL (hc i) (h.2 i hi))⟩

theorem bDd{S:World→Prop}{id:Nat}{l:List Oper}{a:Act}{w:World}{o1 o2 o3:Oper}(hall:∀ f,F.fn f)(hL:¬ LetsOut Q)(hcalm:l.all zX=true)(ts:List Nat)(r1 r2 r3:Nat)(hm:P.follows .mixedOrders=true)(hB:aKm l ts r1 r2 r3=true)(h1:l[r1]? = some o1)(h2:l[r2]? = some o2)(h3:l[r3]? = some o3)
  (hQ:∀ c a w,¬ Q (.panic c) a w) (hS:S { w with drawn:=w.drawn+1 }) (vs:List Value) (hl:vs.length=ts.length) (hy:aKl P S ((ts.filterMap fun i=>l[i]?).zip vs) a)
  (h:∀ a',a'=zY ((ts.filterMap fun i=>l[i]?).zip vs) a→∃ v1 w1 v2 w2 w3,(execOp a'.eval o1).run P { w with drawn:=w.drawn+1 } = .ok (.value v1) w1∧S w1∧(execOp (a'.put o1.dst v1).eval o2).run P w1 = .ok (.value v2) w2∧S w2 ∧
   (execOp ((a'.put o1.dst v1).put o2.dst v2).eval o3).run P w2 = .ok .skip w3∧Q .normal (((a'.put o1.dst v1).put o2.dst v2).put o3.dst undef) w3):(Code.region id l.toArray true).wpIn F n P Q a w:=by
 unfold aKm at hB
 simp only [kQ7,decide_eq_true_eq] at hB
 obtain ⟨⟨⟨hsel,ht⟩,hsz⟩,hne⟩:=hB;refine wpIn_region_any hm (wZ hall hL (fun i o ho=>gA.1 hcalm o (kQ5 (by simpa using ho))) _ _ _ _ (aEh (S:=S) (L:=r3) _ _ _ _ ?_))
 rw [← hsz];refine aHx (rs:=[r1,r2,r3]) hsel hQ hS ts vs _ a hl (by rw [hsz];exact ht) (by simpa using hy) (fun listed' hc => ?_)
 obtain ⟨v1,w1,v2,w2,w3,e1,s1,e2,s2,e3,hq⟩:=h _ rfl;simp only [aHw.chain,kQ7,decide_eq_true_eq] at hc
 obtain ⟨⟨g1,c1⟩,⟨g2,c2⟩,⟨g3,c3⟩,c4⟩:=hc;have k1:l.toArray[r1]? = some o1:=by simpa using h1
 have k2:l.toArray[r2]? = some o2:=by simpa using h2
 have k3:l.toArray[r3]? = some o3:=by simpa using h3
 rw [k1] at g1;rw [k2] at g2;rw [k3] at g3
 simp only [Option.isNone_iff_eq_none] at g1 g2 g3
 have e1':((ts.filterMap fun i=>l.toArray[i]?))=(ts.filterMap fun i=>l[i]?):=by simp
 rw [e1'];refine vJ c1 k1 g1 (.inl e1) (fun _=>s1) ?_
 refine vJ c2 k2 g2 (.inl e2) (fun _=>s2) ?_
 refine vJ c3 k3 g3 (.inr ⟨e3,rfl⟩) (fun h=>absurd rfl h) ?_
 exact ⟨by simpa using c4,hq⟩
end
section
open Go.ChangeMaps (setBlock)
variable {P:Program} {C:Cx} {M:Mem} {w:World}

theorem bQw{M':Mem}(hM:aR P C M w)(h1:∀ (i:Nat) (o:AO),M'[i]? = some (some o)→M[i]? = some (some o))
  (h2:∀ (i ty:Nat) (cs:List AV),M'[i]? = some (some (.box ty cs))→∀ x∈cs,∀ u,Rep C M w x u→Rep C M' w x u):aR P C M' w:=by
 refine ⟨fun i ty n cs hm=>hM.row _ _ _ _ (h1 _ _ hm),fun i ty cs hm => ?_,fun i es cl hm=>hM.mp _ _ _ (h1 _ _ hm),fun i i' o o' b q1 q2 q3 q4=>hM.inj i i' o o' b (h1 _ _ q1) q2 (h1 _ _ q3) q4,fun i o b q1=>hM.nF i o b (h1 _ _ q1),hM.Fs,fun i o b q1=>hM.lt i o b (h1 _ _ q1)⟩
 obtain ⟨b,arr,q0,q1,q2,q3,q4⟩:=hM.box _ _ _ (h1 _ _ hm);exact ⟨b,arr,q0,q1,q2,fun j hj=>h2 _ _ _ hm _ (gS hj) _ (q3 j hj),q4⟩
theorem aOk{M':Mem}{i off:Nat}{u:Value}(hi:M'[i]? = M[i]?)(h:Rep C M w (.ptr i off) u):Rep C M' w (.ptr i off) u:=by
 cases h with
 | ptr _ _ _ h0 ha h hp=>exact .ptr i off u h0 (by rw [hi];exact ha) (by rw [hi];exact h) hp
theorem aTp{M':Mem}{i:Nat}{u:Value}(hi:M'[i]? = M[i]?)(h:Rep C M w (.mp i) u):Rep C M' w (.mp i) u:=by
 cases h with
 | mp _ _ h0 ha h=>exact .mp i u h0 (by rw [hi];exact ha) (by rw [hi];exact h)
theorem tJ{M':Mem}{x:PV}{u:Value}(h:Rep C M w (.p x) u):Rep C M' w (.p x) u:=by
 cases h with
 | p _ _ h=>exact .p _ _ h

theorem aOl{b ty k:Nat}{cs:List PV}{arr:Array Value}(hM:aR P C M w)(hf:aAf M k)(hh:w.heap[b]? = some (.cells arr ty (0,0)))(hnF:¬ C.F b)(hnl:∀ (id:Nat) (o:AO),M[id]? = some (some o)→o.live=true→C.ι id≠some b)
  (hs:arr.size=cs.length) (hrep:∀ j (h:j<cs.length),cN C.F w cs[j] (arr.getD j undef)) (h1:∀ j,j<cs.length→(arr.getD j undef).oneCell'=true) :
  aR P (C.grow k b 1) (aZ M k (some (.box ty (cs.map .p)))) w∧Le C (C.grow k b 1) M (aZ M k (some (.box ty (cs.map .p)))) w w:=by
 have hne:∀ (j:Nat) (o':AO),M[j]? = some (some o')→j≠k:=fun j o' h e=>hf o' (e ▸ h)
 have hold:∀ (j:Nat) (o':AO),j≠k→(aZ M k (some (.box ty (cs.map .p))))[j]? = some (some o')→M[j]? = some (some o'):=fun j o' h=>(aQ M k j _ o' (fun e=>h e.symm)).1
 have hfw:∀ (j:Nat) (o':AO),M[j]? = some (some o')→(aZ M k (some (.box ty (cs.map .p))))[j]? = some (some o'):=fun j o' h=>(aQ M k j _ o' (fun e=>hne j o' h e.symm)).2 h
 have hι:∀ j,j≠k→(C.grow k b 1).ι j=C.ι j:=fun j h=>by simp [Cx.grow,h]
 have hκ:∀ j,j≠k→(C.grow k b 1).κ j=C.κ j:=fun j h=>by simp [Cx.grow,h]
 have hιs:(C.grow k b 1).ι k=some b:=by simp [Cx.grow]
 have hle:Le C (C.grow k b 1) M (aZ M k (some (.box ty (cs.map .p)))) w w:=by
  refine ⟨fun j o h=>⟨o,hfw j o h⟩,fun j o h ty' n' cs' hm=>⟨cs',hold j _ (hne j o h) hm⟩,fun j o h o' hm hl => ?_,fun _ h=>h,fun _ _=>rfl⟩
  have:=hold j _ (hne j o h) hm;rw [h] at this;cases this
  exact ⟨hl,hι j (hne j o h),hκ j (hne j o h)⟩
 have hnew:∀ (o':AO),(aZ M k (some (.box ty (cs.map .p))))[k]? = some (some o')→o' = .box ty (cs.map .p):=fun o' h=>by rw [aY] at h;cases h;rfl
 refine ⟨⟨fun j ty' n' cs' hm => ?_,fun j ty' cs' hm => ?_,fun j es cl hm => ?_,fun j j' o1 o2 b' hm hl hm' hl' hb1 hb2 => ?_,fun j o' b' hm hl hb' => ?_,hM.Fs,fun j o' b' hm hl hb' => ?_⟩,hle⟩
 ·by_cases e:j=k
  ·subst e;cases hnew _ hm
  ·rw [hι j e,hκ j e]
   rcases hM.row _ _ _ _ (hold j _ e hm) with h4 | ⟨b,arr,inf,q0,q1,q2,q3,q4,q5,q6,q7,q8⟩
   ·exact .inl h4
   ·exact .inr ⟨b,arr,inf,q0,q1,q2,q3,q4,q5,q6,fun j hj=>(q7 j hj).mono hle.F hle.fz,q8⟩
 ·by_cases e:j=k
  ·subst e
   cases hnew _ hm;refine ⟨b,arr,hιs,hh,by simpa using hs,fun i hi => ?_,fun i hi=>h1 i (by simpa using hi)⟩
   rw [mZ];exact .p _ _ (hrep i (by simpa using hi))
  ·rw [hι j e]
   obtain ⟨b,arr,q0,q1,q2,q3,q4⟩:=hM.box _ _ _ (hold j _ e hm);exact ⟨b,arr,q0,q1,q2,fun j hj=>(q3 j hj).mono hle,q4⟩
 ·by_cases e:j=k
  ·subst e;cases hnew _ hm
  ·rw [hι j e]
   obtain ⟨b,arr,q0,q1,q2,q3⟩:=hM.mp _ _ _ (hold j _ e hm);refine ⟨b,arr,q0,q1,q2,fun j hj => ?_⟩
   obtain ⟨en,r1,r2,r3,r4⟩:=q3 j hj;exact ⟨en,r1,r2,r3,r4.mono hle.F hle.fz⟩
 ·by_cases e:j=k
  ·by_cases e':j'=k
   ·rw [e,e']
   ·subst e
    rw [hιs] at hb1;cases hb1
    rw [hι j' e'] at hb2
    exact absurd hb2 (hnl _ _ (hold j' _ e' hm') hl')
  ·by_cases e':j'=k
   ·subst e'
    rw [hιs] at hb2;cases hb2
    rw [hι j e] at hb1
    exact absurd hb1 (hnl _ _ (hold j _ e hm) hl)
   ·rw [hι j e] at hb1;rw [hι j' e'] at hb2
    exact hM.inj _ _ _ _ _ (hold j _ e hm) hl (hold j' _ e' hm') hl' hb1 hb2
 ·by_cases e:j=k
  ·subst e
   rw [hιs] at hb';cases hb'
   exact hnF
  ·rw [hι j e] at hb'
   exact hM.nF _ _ _ (hold j _ e hm) hl hb'
 ·by_cases e:j=k
  ·subst e
   rw [hιs] at hb';cases hb'
   exact cA hh
  ·rw [hι j e] at hb'
   exact hM.lt _ _ _ (hold j _ e hm) hl hb'
end
end KV
end Go.Proofs
section
namespace Go.Proofs
open Go.RowKit Go.Lib Go.Shelf
namespace KV
abbrev Bk(dc:Lqq):={ k:Nat // k<dc.length }
def nD(dc:Lqq)(k:Nat):List Int:=dc.getD k []
abbrev aOf(dc:Lqq):AV := .fn 187 [] [(.rp [(.sl dc.length (dc.flatten.map aB))] 0)]
theorem cBa{F:Nat→Prop}{w:World}{n:Int}{u:Value}(h:cN F w (aB n) u):u = .int .i64 n:=by unfold aB at h;cases h;rfl
theorem bQm{dc:Lqq}(hu:uni 6 dc){k j:Nat}{x:List Int}(hx:dc[k]? = some x)(hj:j<6):dc.flatten[k*6+j]? = some (x.getD j 0):=by
 have hk:k<dc.length:=(kQ3.1 hx).1
 induction dc generalizing k with
 | nil=>simp at hk
 | cons y r ih =>
  have hy:y.length=6:=hu y (gY ..);rw [wN];cases k with
  | zero =>
   simp at hx;subst hx
   rw [Nat.zero_mul,gN,aAh (by omega),kQ4,kQ0 (by omega)];rfl
  | succ k =>
   rw [aAg (by omega),hy,show (k+1)*6+j-6=k*6+j by omega]
   exact ih (fun z hz=>hu z (kQ6 _ hz)) (by simpa using hx) (by simpa using hk)
theorem bXl{F:Nat→Prop}{w:World}{n:Nat}{cs:List PV}{v:Value}(h:cN F w (.sl n cs) v):∃ (p:Option Addr) (cap:Nat) (us:Nat→Value),v = .slice p n cap∧(∀ i,i<cs.length→∃ b o,p=some ⟨b,o,none⟩∧F b∧w.cell? ⟨b,o+i,none⟩=some (us i))∧∀ i (h:i<cs.length),cN F w cs[i] (us i):=by
 cases h with
 | sl _ _ p cap us g1 g2 g3 g4 g5=>exact ⟨p,cap,us,rfl,g3,g4⟩
theorem bCz(dc:Lqq)(hu:uni 6 dc)(hl:dc.length≤1000):bTz Tp (aOf dc) (fun x:Bk dc => #[Value.int .i64 (x.1:Nat),.agg (vals6 (nD dc x.1))]) 187 dc.length (fun ys=>ys.map (fun x=>x.1)=bk dc.length 0):=fun C M w u hu0 hFs=>by
 cases hu0 with
 | fn _ _ _ us vs h1 h2 h3 h4 =>
  obtain rfl:us = #[]:=by simpa using h1
  have q0:=h4 0 (by simp)
  simp only [List.getElem_cons_zero] at q0
  obtain ⟨x0,rfl⟩:∃ x0,vs = #[x0]:=by
   have:vs.toList.length=1:=by simpa using h2
   match hv:vs.toList,this with
   | [x0],_=>exact ⟨x0,by rw [← hv]⟩
  change Rep C M w (.rp [.sl dc.length (dc.flatten.map aB)] 0) x0 at q0
  cases q0 with
  | rp _ _ b1 o1 u1 e1 e2 e3 =>
   have r0:=e2 0 (by simp)
   change cN C.F w (.sl dc.length (dc.flatten.map aB)) (u1 0) at r0
   have c0:=e1 0 (by simp)
   obtain ⟨p,cap,us2,hv,g3,g4⟩:=bXl r0;rw [hv] at c0
   clear r0 hv
   ·have hlf:(dc.flatten.map aB).length=dc.length*6:=by rw [eR,pZ hu]
    refine ⟨_,fun pre=>True,rfl,fun l J Jx W hW hJ _ hY h0 => ?_⟩
    have hsame:∀ W',KpG C.F W W'→∀ b,C.F b→W'.heap[b]? = w.heap[b]? := fun W' hk b hb=>(hk.same b hb).trans (hW.block b (hFs b hb))
    obtain ⟨b2,o2,hp⟩:∃ b2 o2,dc.length=0∨p=some ⟨b2,o2,none⟩:=by
     by_cases hz:dc.length=0
     ·exact ⟨0,0,.inl hz⟩
     ·obtain ⟨b,o,h,_⟩:=g3 0 (by omega)
      exact ⟨b,o,.inr h⟩
    have hcell:∀ W',KpG C.F W W'→∀ k:Nat,k<dc.length→∃ a b c d e f,dc[k]? = some [a,b,c,d,e,f]∧W'.cell? ⟨b2,o2+k*6,none⟩=some (.int .i64 a)∧W'.cell? ⟨b2,o2+k*6+1,none⟩=some (.int .i64 b)∧W'.cell? ⟨b2,o2+k*6+2,none⟩=some (.int .i64 c)∧W'.cell? ⟨b2,o2+k*6+3,none⟩=some (.int .i64 d)∧W'.cell? ⟨b2,o2+k*6+4,none⟩=some (.int .i64 e)∧W'.cell? ⟨b2,o2+k*6+5,none⟩=some (.int .i64 f):=fun W' hk k hkn=>by
     obtain ⟨a,b,c,d,e,f,hx⟩:=at6 hu (i:=k) (by omega)
     have one:∀ j,j<6→W'.cell? ⟨b2,o2+(k*6+j),none⟩=some (.int .i64 ([a,b,c,d,e,f].getD j 0)):=fun j hj=>by
      have hi:k*6+j<(dc.flatten.map aB).length:=by omega
      obtain ⟨b',o',q1,q2,q3⟩:=g3 (k*6+j) hi
      rcases hp with hp | hp
      ·omega
      ·rw [hp] at q1
       cases q1;rw [eN (hsame W' hk b2 q2),q3];have:=g4 (k*6+j) hi;have he:(dc.flatten.map aB)[k*6+j]=aB ([a,b,c,d,e,f].getD j 0):=by
        have h5:=bQm hu hx hj;rw [mZ]
        congr 1
        obtain ⟨_,h6⟩:=kQ3.1 h5;exact h6
       rw [he] at this
       rw [cBa this]
     exact ⟨a,b,c,d,e,f,hx,one 0 (by omega),one 1 (by omega),one 2 (by omega),one 3 (by omega),one 4 (by omega),one 5 (by omega)⟩
    by_cases hz:dc.length=0
    ·-- nothing to yield: any address will do
     have h2:bk dc.length 0=[]:=by unfold bk;rw [hz];rfl
     rw [hz] at c0
     refine (aTs 2 l b1 o1 cap p (by omega) (J []) W ((eN (hsame W (KpG.refl _ _) b1 c0.1) _).trans c0.2) h0).mono ?_
     rintro e W' ⟨h5,h6⟩;exact ⟨h5,.inl ⟨[],by rw [h2];rfl,h6⟩⟩
    ·have hp:p=some ⟨b2,o2,none⟩:=hp.resolve_left hz
     subst hp;have:=aTr dc hl C.F 2 l b1 o1 b2 o2 cap (by omega) (fun ys W=>∃ zs:List (Bk dc),zs.map (fun x=>x.1)=ys∧J zs W) (fun ys W=>∃ zs:List (Bk dc),zs.map (fun x=>x.1)=ys∧Jx zs W)
      (fun pre k a b c d e f W1 hx hj hlt=>by
       obtain ⟨zs,rfl,hj⟩:=hj;have hk:k<dc.length:=(kQ3.1 hx).1;obtain ⟨fn,tmps,assign,body,hy,hR⟩:=hY zs ⟨k,hk⟩ W1 hj (by simpa [aTt] using hlt)
       have ev:vals6 (nD dc k) = #[.int .i64 a,.int .i64 b,.int .i64 c,.int .i64 d,.int .i64 e,.int .i64 f]:=by
        unfold nD;rw [kQ4,hx];rfl
       dsimp only at hy
       rw [ev] at hy
       refine ⟨fn,tmps,assign,body,hy,hR.mono ?_⟩;rintro e w3 (⟨rfl,hJ3,hK3⟩ | ⟨rfl,hx3⟩)
       ·exact .inl ⟨rfl,⟨zs++[⟨k,hk⟩],by rw [gJ];rfl,hJ3⟩,hK3⟩
       ·exact .inr ⟨rfl,⟨zs++[⟨k,hk⟩],by rw [gJ];rfl,hx3⟩⟩)
      W (fun ys A B row hs hg hr=>by obtain ⟨zs,h1,h2⟩:=hs;exact ⟨zs,h1,hJ _ _ _ _ h2 hg hr⟩) (fun b hb=>kQ8 (hFs b hb) hW.size)
      hcell
      (fun W' hk=>(eN (hsame W' hk b1 c0.1) _).trans c0.2)
      ⟨[],rfl,h0⟩
     refine this.mono ?_;rintro e W' ⟨h5,h6⟩;refine ⟨h5,?_⟩
     rcases h6 with ⟨ys,rfl,zs,h7,h8⟩ | ⟨pre,_,zs,h7,h8⟩
     ·exact .inl ⟨zs,h7,h8⟩
     ·exact .inr ⟨zs,trivial,h8⟩
end KV
end Go.Proofs
end
namespace Go.Proofs
namespace KV
section
variable {dl x0 x1 x2 x3 x4 x5:Int}{cl mb:Nat}

theorem bQj{v1 v2:Value}{es:List (Value × PV)}(h0:cK .i64 es (.int .i64 x0))(h1:(dS es (.int .i64 x0))=true):fD Tp 5 (sub (cd Tryz.f82) [1,1,1,1,0,1,0,1,0,0]) ⟨fr 57 [(6,(.ptr 0 0)),(8,(.ptr 4 0))],[some (.box 130 [(.ptr 1 0)]),some (.box 176 [(pI dl),(.p (.v v1)),(.p (.v v2)),(.mp 2),(.p (.v (.map (some mb))))]),some (.mp es cl),some .dead,some (.box 44 [(pI x0),(pI x1),(pI x2),(pI x3),(pI x4),(pI x5)])]⟩ .normal ⟨fr 57 [(6,(.ptr 0 0)),(8,(.ptr 4 0))],[some (.box 130 [(.ptr 1 0)]),some (.box 176 [(pI dl),(.p (.v v1)),(.p (.v v2)),(.mp 2),(.p (.v (.map (some mb))))]),some (.mp (pO es (.int .i64 x0) (dcE x0 x1 x2 x3 x4 x5)) cl),some .dead,some (.box 44 [(pI x0),(pI x1),(pI x2),(pI x3),(pI x4),(pI x5)])]⟩:=by
 exact fD.fi ⟨[0,1,2,3,4,5,7,9,10,11,12,13,14,15,16,17,18,19,20,21,22,23,24,25,26,27,28,29,30,31,32,33,34,35,36,37,38,39,40,41,42,43,44,45,46,47,48,49,50,51,52,53,54,55,56],[],[],[]⟩ [bT] (gc h1 (gc h0 gn))
theorem bQk{v1 v2:Value}{es:List (Value × PV)}(h0:cK .i64 es (.int .i64 x0))(h1:(dS es (.int .i64 x0))=false):fD Tp 5 (sub (cd Tryz.f82) [1,1,1,1,0,1,0,1,0,0]) ⟨fr 57 [(6,(.ptr 0 0)),(8,(.ptr 4 0))],[some (.box 130 [(.ptr 1 0)]),some (.box 176 [(pI dl),(.p (.v v1)),(.p (.v v2)),(.mp 2),(.p (.v (.map (some mb))))]),some (.mp es cl),some .dead,some (.box 44 [(pI x0),(pI x1),(pI x2),(pI x3),(pI x4),(pI x5)])]⟩ .normal ⟨fr 57 [(6,(.ptr 0 0)),(8,(.ptr 4 0))],[some (.box 130 [(.ptr 1 0)]),some (.box 176 [(pI dl),(.p (.v v1)),(.p (.v v2)),(.mp 2),(.p (.v (.map (some mb))))]),some (.mp (es++[((.int .i64 x0),(dcE x0 x1 x2 x3 x4 x5))]) (cl+1)),some .dead,some (.box 44 [(pI x0),(pI x1),(pI x2),(pI x3),(pI x4),(pI x5)])]⟩:=by
 exact fD.fi ⟨[0,1,2,3,4,5,7,9,10,11,12,13,14,15,16,17,18,19,20,21,22,23,24,25,26,27,28,29,30,31,32,33,34,35,36,37,38,39,40,41,42,43,44,45,46,47,48,49,50,51,52,53,54,55,56],[],[],[]⟩ [bF] (gc h1 (gc h0 gn))
theorem bQl{v1 v2:Value}{es:List (Value × PV)}:fD Tp 5 (sub (cd Tryz.f82) [1,1,1,1,0,1,0,1,0,1,0]) ⟨fr 57 [(6,(.ptr 0 0)),(8,(.ptr 4 0))],[some (.box 130 [(.ptr 1 0)]),some (.box 176 [(pI dl),(.p (.v v1)),(.p (.v v2)),(.mp 2),(.p (.v (.map (some mb))))]),some (.mp es cl),some .dead,some (.box 44 [(pI x0),(pI x1),(pI x2),(pI x3),(pI x4),(pI x5)])]⟩ .normal ⟨fr 57 [(6,(.ptr 0 0)),(8,(.ptr 4 0)),(39,(pB (decide (x5 > (0:Int)))))],[some (.box 130 [(.ptr 1 0)]),some (.box 176 [(pI dl),(.p (.v v1)),(.p (.v v2)),(.mp 2),(.p (.v (.map (some mb))))]),some (.mp es cl),some .dead,some (.box 44 [(pI x0),(pI x1),(pI x2),(pI x3),(pI x4),(pI x5)])]⟩:=by
 exact fD.fi ⟨[0,1,2,3,4,5,7,9,10,11,12,13,14,15,16,17,18,19,20,21,22,23,24,25,26,27,28,29,30,31,32,33,34,35,36,37,38,40,41,42,43,44,45,46,47,48,49,50,51,52,53,54,55,56],[],[],[]⟩ [] gn
end
end KV
end Go.Proofs
section
namespace Go.Proofs
open Go.RowKit
namespace KV
open Go.ChangeMaps (setBlock)
open Go.Maps Go.MapKept

section
variable {P:Program} {o:Oper} {a:Act} {W W':World}
theorem bKm{x:Operand}{p:Addr}(ho:o.op = .nilCheck x)(hv:a.eval x = .pointer (some p)):(execOp a.eval o).run P W = .ok (.value (.pointer (some p))) W:=by
 unfold execOp;rw [ho];simp [hv]
theorem wU{t:TypeId}{x:Operand}{f:Nat}{v r:Value}(ho:o.op = .fieldAddr t x f)(hx:a.eval x=v)(hr:(Instr.fieldAt t v f).run P W = .ok r W):(execOp a.eval o).run P W = .ok (.value r) W:=by
 unfold execOp;rw [ho];simp [hx,hr,Result.andThen]
theorem wV{t:TypeId}{fs:Array Field}{f:Nat}{fl:Field}{j:TI}(hd:P.underlying t=some (.struct fs))(hf:fs[f]? = some fl)(hj:cJ P fl.type=some j)(h0:j.size≠0)(b off:Nat) :
  (Instr.fieldAt t (.pointer (some ⟨b,off,none⟩)) f).run P W = .ok (.pointer (some ⟨b,off+fl.offset,none⟩)) W:=by
 unfold Instr.fieldAt;rw [Sem.run_bind,run_underlying hd,Result.andThen_ok];simp only [hf];rw [Sem.run_bind];show ((pure (⟨b,off,none⟩:Addr):Sem Addr).run P W).andThen _=_;rw [Sem.run_pure,Result.andThen_ok,Sem.run_bind,rP hj h0,Result.andThen_ok];rfl
theorem bCy{t:Nat}{i:TI}(hi:cJ P t=some i)(ha:i.agg=true){b:Nat}{l:List Value}{ty:TypeId}{fr:Nat × Nat}(hl:l.length=i.size)(h:W.heap[b]? = some (.cells l.toArray ty fr)):(Instr.loadAt t (.pointer (some ⟨b,0,none⟩))).run P W = .ok (.agg l.toArray) W:=by
 have:=lP (P:=P) (w:=W) hi ha (b:=b) (o:=0) (f:=fun j=>l.getD j undef) (fun j hj=>by
  rw [gN,bX h (by simpa using (by omega:j<l.length))]
  simp [kQ4,kQ0 (show j<l.length by omega),kQ2])
 have e:((List.range i.size).map fun j=>l.getD j undef).toArray=l.toArray:=by
  rw [← hl]
  congr 1
  apply List.ext_getElem
  ·simp
  ·intro j h1 h2
   simp [kQ4,kQ0 h2]
 rw [e] at this
 unfold Instr.loadAt Instr.sureAddr;simpa using this
end
theorem fill6{x:List Int}(hx:x.length=6):Instr.fill (fun i=>some (i*6,6)) ((Array.range (1*6)).map (zD6.cells[· % zD6.cells.size]!)) [(0,.agg (vsL x).toArray)]=some (vsL x).toArray:=by
 obtain ⟨a,b,c,d,e,f,rfl⟩:=len6 hx
 kernel_rfl
theorem tiq{P:Program}{t:Nat}{b:Bool}{n:Nat}(h:(cJ P t).map (fun i=>(i.agg,i.size))=some (b,n)):∃ i,cJ P t=some i∧i.agg=b∧i.size=n:=by
 cases h2:cJ P t with
 | none=>rw [h2] at h;simp at h
 | some i=>rw [h2] at h;simp at h;exact ⟨i,rfl,h.1,h.2⟩
theorem tq130:(cJ Tp 130).map (fun i=>(i.agg,i.size))=some (false,1):=by kernel_rfl
theorem tq174:(cJ Tp 174).map (fun i=>(i.agg,i.size))=some (false,1):=by kernel_rfl
theorem tq3:(cJ Tp 3).map (fun i=>(i.agg,i.size))=some (false,1):=by kernel_rfl
theorem tq44:(cJ Tp 44).map (fun i=>(i.agg,i.size))=some (true,6):=by kernel_rfl
theorem info44z:(Tryz.prog.info? 44).map (fun i=>(i.zero,i.size,i.bytes))=some (some zD6,6,48):=by kernel_rfl

structure bQh (mb:Nat) (es:Array MapEntry) (cl:Nat) (L:List Ent) (k:Int) (x:List Int) (W W':World) (es':Array MapEntry) (cl':Nat) (e:Ent):Prop where
 ok:mI mb es' (pK L e)
 ky:e.k=k
 li:e.l=pJ L k++[x]
 born:(∀ y∈es.toList,y.born<cl)→∀ y∈es'.toList,y.born<cl'
 has:∀ p∈iL mb es' cl' (pK L e),W'.heap[p.1]? = some p.2∧((∃ p0∈iL mb es cl L,p0.1=p.1)∨W.heap.size≤p.1)
 size:W.heap.size≤W'.heap.size
 os:W'.os=W.os
 tape:W'.tape=W.tape
 out:W'.output=W.output
 keep:∀ b,b<W.heap.size→(∀ q∈iL mb es cl L,q.1≠b)→W'.heap[b]? = W.heap[b]?

theorem bQi:∃ l:List Oper,sub (cd Tryz.f82) [1,1,1,1,0,1,0,1,0,1,1,0] = .region 9 l.toArray true∧aKm l [0,1,2,3,4,5,6,7,8,9,10,11,12,13] 14 15 16=true∧l.all zX=true∧l.map (fun o=>(o.op,o.dst))=[(.load 130 (.tmp 6),some 40),(.nilCheck (.tmp 40),some 41),(.fieldAddr 176 (.tmp 41) 2,some 42),(.load 174 (.tmp 42),some 43),(.fieldAddr 44 (.tmp 8) 5,some 44),(.load 3 (.tmp 44),some 45),(.load 130 (.tmp 6),some 46),(.nilCheck (.tmp 46),some 47),(.fieldAddr 176 (.tmp 47) 2,some 48),(.load 174 (.tmp 48),some 49),(.fieldAddr 44 (.tmp 8) 5,some 50),(.load 3 (.tmp 50),some 51),(.lookup 174 (.tmp 49) (.tmp 51) false,some 52),(.load 44 (.tmp 8),some 53),(.buildSlice 24 1 #[(0,.tmp 53)],some 54),(.call { callee := .builtin .append,args := #[.tmp 52,.tmp 54],argTypes := #[24,24] },some 55),(.mapUpdate 174 (.tmp 43) (.tmp 45) (.tmp 55),none)] :=
 ⟨match sub (cd Tryz.f82) [1,1,1,1,0,1,0,1,0,1,1,0] with | .region _ ops _=>ops.toList | _=>[],by kernel_rfl,by kernel_rfl,by kernel_rfl,by kernel_rfl⟩
set_option maxHeartbeats 4000000 in
theorem ask9{F:Fence}{n:Nat}(hall:∀ f,F.fn f){a:Act}{W:World}{b6 bd b8 mb cl:Nat}{es:Array MapEntry}{L:List Ent}{x:List Int}(hx6:x.length=6){a6 ad:Array Value}{t6 td:TypeId}
  (hsz:a.tmps.size=57) (v6:a.tmps.getD 6 undef = .pointer (some ⟨b6,0,none⟩)) (v8:a.tmps.getD 8 undef = .pointer (some ⟨b8,0,none⟩))
  (h6:W.heap[b6]? = some (.cells a6 t6 (0,0))) (q6:0<a6.size∧a6.getD 0 undef = .pointer (some ⟨bd,0,none⟩)) (hd:W.heap[bd]? = some (.cells ad td (0,0))) (qd:4<ad.size∧ad.getD 4 undef = .map (some mb)) (h8:W.heap[b8]? = some (.cells (vsL x).toArray 44 (0,0)))
  (hM:mI mb es L) (hR:∀ p∈iL mb es cl L,W.heap[p.1]? = some p.2) (hl:∀ e∈L,e.l.length≤1000) (hne:∀ p∈iL mb es cl L,p.1≠b6∧p.1≠bd∧p.1≠b8) (hk:(Lit.int .i64 (dAb x)).wf=true) :
  (sub (cd Tryz.f82) [1,1,1,1,0,1,0,1,0,1,1,0]).wpIn F n Tp (fun e a' W'=>e = .normal∧∃ es' cl' e,bQh mb es cl L (dAb x) x W W' es' cl' e) a W:=by
 obtain ⟨l,hc,hB,hcalm,hops⟩:=bQi;rw [hc];obtain ⟨o0,l0,rfl,h0,hops⟩:=rT.1 hops;obtain ⟨o1,l1,rfl,h1,hops⟩:=rT.1 hops;obtain ⟨o2,l2,rfl,h2,hops⟩:=rT.1 hops;obtain ⟨o3,l3,rfl,h3,hops⟩:=rT.1 hops;obtain ⟨o4,l4,rfl,h4,hops⟩:=rT.1 hops;obtain ⟨o5,l5,rfl,h5,hops⟩:=rT.1 hops;obtain ⟨o6,l6,rfl,h6',hops⟩:=rT.1 hops;obtain ⟨o7,l7,rfl,h7,hops⟩:=rT.1 hops;obtain ⟨o8,l8,rfl,h8',hops⟩:=rT.1 hops;obtain ⟨o9,l9,rfl,h9,hops⟩:=rT.1 hops;obtain ⟨o10,l10,rfl,h10,hops⟩:=rT.1 hops;obtain ⟨o11,l11,rfl,h11,hops⟩:=rT.1 hops;obtain ⟨o12,l12,rfl,h12,hops⟩:=rT.1 hops;obtain ⟨o13,l13,rfl,h13,hops⟩:=rT.1 hops;obtain ⟨o14,l14,rfl,h14,hops⟩:=rT.1 hops;obtain ⟨o15,l15,rfl,h15,hops⟩:=rT.1 hops;obtain ⟨o16,l16,rfl,h16,hops⟩:=rT.1 hops;obtain rfl:=List.map_eq_nil_iff.1 hops;obtain ⟨q0,d0⟩:=Prod.mk.inj h0;obtain ⟨q1,d1⟩:=Prod.mk.inj h1;obtain ⟨q2,d2⟩:=Prod.mk.inj h2;obtain ⟨q3,d3⟩:=Prod.mk.inj h3;obtain ⟨q4,d4⟩:=Prod.mk.inj h4;obtain ⟨q5,d5⟩:=Prod.mk.inj h5;obtain ⟨q6',d6⟩:=Prod.mk.inj h6';obtain ⟨q7,d7⟩:=Prod.mk.inj h7;obtain ⟨q8,d8⟩:=Prod.mk.inj h8';obtain ⟨q9,d9⟩:=Prod.mk.inj h9;obtain ⟨q10,d10⟩:=Prod.mk.inj h10;obtain ⟨q11,d11⟩:=Prod.mk.inj h11;obtain ⟨q12,d12⟩:=Prod.mk.inj h12;obtain ⟨q13,d13⟩:=Prod.mk.inj h13;obtain ⟨q14,d14⟩:=Prod.mk.inj h14;obtain ⟨q15,d15⟩:=Prod.mk.inj h15;obtain ⟨q16,d16⟩:=Prod.mk.inj h16;clear h0 h1 h2 h3 h4 h5 h6' h7 h8' h9 h10 h11 h12 h13 h14 h15 h16;have V6:a.eval (.tmp 6) = .pointer (some ⟨b6,0,none⟩):=v6;have V8:a.eval (.tmp 8) = .pointer (some ⟨b8,0,none⟩):=v8;obtain ⟨i130,t130,a130,_⟩:=tiq tq130;obtain ⟨i174,t174,a174,s174⟩:=tiq tq174;obtain ⟨i3,t3,a3,s3⟩:=tiq tq3;obtain ⟨i44,t44,a44,s44⟩:=tiq tq44;have fd:∀ U:World,(Instr.fieldAt 176 (.pointer (some ⟨bd,0,none⟩)) 2).run Tp U = .ok (.pointer (some ⟨bd,4,none⟩)) U:=fun U =>
  (wV (P:=Tp) (W:=U) Tryz.underlying176 (f:=2) rfl (by exact t174) (by rw [s174];decide) bd 0)
 have f8:∀ U:World,(Instr.fieldAt 44 (.pointer (some ⟨b8,0,none⟩)) 5).run Tp U = .ok (.pointer (some ⟨b8,5,none⟩)) U:=fun U =>
  (wV (P:=Tp) (W:=U) Tryz.underlying44 (f:=5) rfl (by exact t3) (by rw [s3];decide) b8 0)
 obtain ⟨S,hSdef⟩:∃ S:World→Prop,S=fun U=>U.heap[b6]? = W.heap[b6]? ∧ U.heap[bd]? = W.heap[bd]? ∧ U.heap[b8]? = W.heap[b8]? ∧ U.heap[mb]? = W.heap[mb]? := ⟨_,rfl⟩
 have hmb:W.heap[mb]? = some (.map es cl):=hR (mb,.map es cl) (by simp [iL])
 have r6:∀ U,S U→(Instr.loadAt 130 (.pointer (some ⟨b6,0,none⟩))).run Tp U = .ok (.pointer (some ⟨bd,0,none⟩)) U:=fun U hU=>by
  rw [hSdef] at hU
  refine yJ t130 a130 ?_;rw [eN hU.1,bX h6 q6.1];have:=q6.2;simp only [kQ2,qY q6.1,Option.getD_some] at this ⊢
  rw [this]
 have rd:∀ U,S U→(Instr.loadAt 174 (.pointer (some ⟨bd,4,none⟩))).run Tp U = .ok (.map (some mb)) U:=fun U hU=>by
  rw [hSdef] at hU
  refine yJ t174 a174 ?_;rw [eN hU.2.1,bX hd qd.1];have:=qd.2;simp only [kQ2,qY qd.1,Option.getD_some] at this ⊢
  rw [this]
 have x5:(vsL x)[5]? = some (.int .i64 (dAb x)):=by
  unfold vsL;rw [jA,kQ0 (by omega)]
  simp [dAb,kQ4,kQ0 (show 5<x.length by omega)]
 have r5:∀ U,S U→(Instr.loadAt 3 (.pointer (some ⟨b8,5,none⟩))).run Tp U = .ok (.int .i64 (dAb x)) U:=fun U hU=>by
  rw [hSdef] at hU
  refine yJ t3 a3 ?_;have hs5:5<(vsL x).length:=by simp [vsL,hx6]
  rw [eN hU.2.2.1,bX h8 (j:=5) (by simpa using hs5)]
  simp only [kQ0 hs5,Option.some.injEq] at x5
  simp [kQ2,kQ0 hs5,x5]
 have r8:∀ U,S U→(Instr.loadAt 44 (.pointer (some ⟨b8,0,none⟩))).run Tp U = .ok (.agg (vsL x).toArray) U:=fun U hU=>by
  rw [hSdef] at hU
  exact bCy t44 a44 (by simp [vsL,hx6,s44]) (hU.2.2.1.trans h8)
 have rz:∀ U:World,(zeroValue 24).run Tp U = .ok (.slice none 0 0) U:=fun U=>rfl
 have rl:∀ U,S U→(Instr.lookup 174 (.map (some mb)) (.int .i64 (dAb x)) false).run Tp U = .ok (qX L (dAb x)) U:=fun U hU=>by
  rw [hSdef] at hU
  exact bKr Tryz.underlying174 Tryz.underlying3 (rz U) (hU.2.2.2.trans hmb) hM hk
 obtain ⟨W1,hW1⟩:∃ W1:World,W1={ W with drawn:=W.drawn+1 }:=⟨_,rfl⟩
 have hh1:W1.heap=W.heap:=by rw [hW1]
 have hs:Sim Tp ((⟨fun _=>none,fun _=>0,fun _=>False,[]⟩:Cx).with (iL mb es cl L++[])) [] { W1 with heap := #[] } ⟨List.replicate 57 .any,[]⟩ { tmps:=a.tmps,defers:=[] } W1:=by
  refine ⟨⟨fun _=>none,fun _=>0,fun _=>False,[]⟩,⟨by simpa using hsz,fun j hj=>by rw [List.getElem_replicate];exact .any _⟩,⟨fun _ _ _ _ h=>by simp at h,fun _ _ _ h=>by simp at h,fun _ _ _ h=>by simp at h,fun _ _ _ _ _ h=>by simp at h,fun _ _ _ h=>by simp at h,fun _ h=>h.elim,fun _ _ _ h=>by simp at h⟩,
   ⟨rfl,rfl,rfl,Nat.zero_le _,fun b hb=>by simp at hb,fun _ _ h=>by simp at h,fun _ _ h=>by simp at h,fun _ _ h=>by simp at h,fun _ _ _ h=>by simp at h,fun _ h=>h,fun _ h=>h.elim⟩,?_⟩
  refine ⟨⟨[],rfl,.nil,fun D h=>by cases h⟩,fun p hp => ?_,.no (fun _ _ h=>by simp at h)⟩
  have hp':p∈iL mb es cl L:=by have h2:p∈iL mb es cl L++[]:=hp;rwa [List.append_nil] at h2
  refine ⟨by rw [hh1];exact hR p hp',Nat.zero_le _,?_,fun h=>h,fun _ _ h=>by simp at h⟩
  rcases cZ.1 hp' with rfl | ⟨y,_,rfl⟩ <;> (intro h;cases h)
 obtain ⟨v2,w2,es',cl',e,hrun,hkeep,hmb2,⟨hsize,hborn,hold⟩,hup,hM',hek,hel,_,hsim⟩:=bRa (P:=Tp) (C0:=⟨fun _=>none,fun _=>0,fun _=>False,[]⟩) (kt:=3) (S22:=24) (ty:=o15.type) (k:=dAb x) (x:=x) hx6 Tryz.underlying174 Tryz.underlying3 Tryz.underlying24 info44z hs (fun p _ q hq=>by cases hq) hM hk hl
 have hw2:S w2:=by
  rw [hSdef];have hlt:∀ b o,W.heap[b]? = some o→b<W1.heap.size:=fun b o h=>by rw [hh1];exact cA h
  refine ⟨(hkeep b6 (hlt _ _ h6) fun q hq=>(hne q hq).1).trans (by rw [hh1]),(hkeep bd (hlt _ _ hd) fun q hq=>(hne q hq).2.1).trans (by rw [hh1]),(hkeep b8 (hlt _ _ h8) fun q hq=>(hne q hq).2.2).trans (by rw [hh1]),hmb2.trans (by rw [hh1])⟩
 have hS1:S { W with drawn:=W.drawn+1 }:=by rw [hSdef];exact ⟨rfl,rfl,rfl,rfl⟩
 refine bDd (P:=Tp) (o1:=o14) (o2:=o15) (o3:=o16) (S:=S) hall (fun ⟨_,_,h,_⟩=>by cases h) hcalm [0,1,2,3,4,5,6,7,8,9,10,11,12,13] 14 15 16 mixed hB rfl rfl rfl (fun c a w h=>by cases h.1) hS1
  [.pointer (some ⟨bd,0,none⟩),.pointer (some ⟨bd,0,none⟩),.pointer (some ⟨bd,4,none⟩),.map (some mb),.pointer (some ⟨b8,5,none⟩),.int .i64 (dAb x),.pointer (some ⟨bd,0,none⟩),.pointer (some ⟨bd,0,none⟩),.pointer (some ⟨bd,4,none⟩),.map (some mb),.pointer (some ⟨b8,5,none⟩),.int .i64 (dAb x),qX L (dAb x),.agg (vsL x).toArray] rfl ?_ ?_
 ·refine ⟨fun U hU=>qK q0 V6 (r6 U hU),fun U hU=>bKm q1 (by simp [bQ,bN,dO,hsz,V6,V8,d0,d1,d2,d3,d4,d5,d6,d7,d8,d9,d10,d11,d12]),fun U hU=>wU q2 (by simp [bQ,bN,dO,hsz,V6,V8,d0,d1,d2,d3,d4,d5,d6,d7,d8,d9,d10,d11,d12]) (fd U),
   fun U hU=>qK q3 (by simp [bQ,bN,dO,hsz,V6,V8,d0,d1,d2,d3,d4,d5,d6,d7,d8,d9,d10,d11,d12]) (rd U hU),fun U hU=>wU q4 (by simp [bQ,bN,dO,hsz,V6,V8,d0,d1,d2,d3,d4,d5,d6,d7,d8,d9,d10,d11,d12]) (f8 U),fun U hU=>qK q5 (by simp [bQ,bN,dO,hsz,V6,V8,d0,d1,d2,d3,d4,d5,d6,d7,d8,d9,d10,d11,d12]) (r5 U hU),
   fun U hU=>qK q6' (by simp [bQ,bN,dO,hsz,V6,V8,d0,d1,d2,d3,d4,d5,d6,d7,d8,d9,d10,d11,d12]) (r6 U hU),fun U hU=>bKm q7 (by simp [bQ,bN,dO,hsz,V6,V8,d0,d1,d2,d3,d4,d5,d6,d7,d8,d9,d10,d11,d12]),fun U hU=>wU q8 (by simp [bQ,bN,dO,hsz,V6,V8,d0,d1,d2,d3,d4,d5,d6,d7,d8,d9,d10,d11,d12]) (fd U),
   fun U hU=>qK q9 (by simp [bQ,bN,dO,hsz,V6,V8,d0,d1,d2,d3,d4,d5,d6,d7,d8,d9,d10,d11,d12]) (rd U hU),fun U hU=>wU q10 (by simp [bQ,bN,dO,hsz,V6,V8,d0,d1,d2,d3,d4,d5,d6,d7,d8,d9,d10,d11,d12]) (f8 U),fun U hU=>qK q11 (by simp [bQ,bN,dO,hsz,V6,V8,d0,d1,d2,d3,d4,d5,d6,d7,d8,d9,d10,d11,d12]) (r5 U hU),
   fun U hU=>bDf q12 (by simp [bQ,bN,dO,hsz,V6,V8,d0,d1,d2,d3,d4,d5,d6,d7,d8,d9,d10,d11,d12]) (by simp [bQ,bN,dO,hsz,V6,V8,d0,d1,d2,d3,d4,d5,d6,d7,d8,d9,d10,d11,d12]) (rl U hU),
   fun U hU=>qK q13 (by simp [bQ,bN,dO,hsz,V6,V8,d0,d1,d2,d3,d4,d5,d6,d7,d8,d9,d10,d11,d12]) (r8 U hU),trivial⟩
 ·intro a' ha'
  have e43:a'.eval (.tmp 43) = .map (some mb):=by rw [ha'];simp [zY,bQ,bN,dO,hsz,V6,V8,d0,d1,d2,d3,d4,d5,d6,d7,d8,d9,d10,d11,d12,d13]
  have e45:a'.eval (.tmp 45) = .int .i64 (dAb x):=by rw [ha'];simp [zY,bQ,bN,dO,hsz,V6,V8,d0,d1,d2,d3,d4,d5,d6,d7,d8,d9,d10,d11,d12,d13]
  have e52:a'.eval (.tmp 52)=qX L (dAb x):=by rw [ha'];simp [zY,bQ,bN,dO,hsz,V6,V8,d0,d1,d2,d3,d4,d5,d6,d7,d8,d9,d10,d11,d12,d13]
  have e53:a'.eval (.tmp 53) = .agg (vsL x).toArray:=by rw [ha'];simp [zY,bQ,bN,dO,hsz,V6,V8,d0,d1,d2,d3,d4,d5,d6,d7,d8,d9,d10,d11,d12,d13]
  have hsz':a'.tmps.size=57:=by rw [ha'];simp [zY,dO,hsz,d0,d1,d2,d3,d4,d5,d6,d7,d8,d9,d10,d11,d12,d13]
  obtain ⟨inf,hi,hz,hz1,hz2⟩:=info_parts info44z;have hvl:(vsL x).length=6:=by simp [vsL,hx6]
  have hbld:∀ U:World,(Instr.buildSlice 24 1 #[(0,.agg (vsL x).toArray)]).run Tp U = .ok (.slice (some ⟨U.heap.size,0,none⟩) 1 1) (U.alloc (.cells (vsL x).toArray 44)):=fun U =>
   aCv (P:=Tp) 24 44 inf 1 #[(0,.agg (vsL x).toArray)] (vsL x).toArray zD6 Tryz.underlying24 hi hz (by rw [hz1];decide) (by rw [hz1];exact fill6 hx6)
  have hW1':({ W with drawn:=W.drawn+1 }:World)=W1:=hW1.symm
  rw [hW1'] at hS1 ⊢
  refine ⟨_,_,v2,w2,setBlock w2 mb (.map es' cl'),bDg q14 e53 (hbld _),?_,bDh q15 (by rw [d14,bQ rfl];exact e52) (by rw [d14,bN (by omega)]) hrun,hw2,bDi q16 (by rw [d14,d15,bQ rfl,bQ rfl];exact e43) (by rw [d14,d15,bQ rfl,bQ rfl];exact e45) (by rw [d14,d15,bN (by rw [dO];omega)]) hup,?_⟩
  ·obtain ⟨n1,n2,n3⟩:=jO W1 (.cells (vsL x).toArray 44)
   rw [hSdef] at hS1 ⊢
   have hlt:∀ b o,W.heap[b]? = some o→b<W1.heap.size:=fun b o h=>by rw [hh1];exact cA h
   exact ⟨(n3 b6 (hlt _ _ h6)).trans hS1.1,(n3 bd (hlt _ _ hd)).trans hS1.2.1,(n3 b8 (hlt _ _ h8)).trans hS1.2.2.1,(n3 mb (hlt _ _ hmb)).trans hS1.2.2.2⟩
  ·refine ⟨rfl,es',cl',e,⟨hM',hek,hel,hborn,fun p hp => ?_,?_,?_,?_,?_,fun b hb hno => ?_⟩⟩
   ·refine ⟨hsim.has p (nZ _ hp),?_⟩
    rcases hold p hp with h | h
    ·exact .inl h
    ·right;rw [hh1] at h;exact h
   ·unfold setBlock;simp only [Array.size_setIfInBounds];rw [hh1] at hsize;exact hsize
   ·obtain ⟨C,_,_,hF,_⟩:=hsim
    exact hF.os.trans (by rw [hW1])
   ·obtain ⟨C,_,_,hF,_⟩:=hsim
    exact hF.tape.trans (by rw [hW1])
   ·obtain ⟨C,_,_,hF,_⟩:=hsim
    exact hF.out.trans (by rw [hW1])
   ·have hbm:b≠mb:=fun h=>hno (mb,.map es cl) (by simp [iL]) h.symm
    have:(setBlock w2 mb (.map es' cl')).heap[b]? = w2.heap[b]? := by
     unfold setBlock;simp only [Array.getElem?_setIfInBounds];rw [if_neg (Ne.symm hbm)]
    rw [this,hkeep b (by rw [hh1];exact hb) hno,hh1]
end KV
end Go.Proofs
end
section
namespace Go.Proofs
open Go.RowKit
namespace KV
open Go.ChangeMaps (setBlock)

mutual
def ffP:PV→Bool
 | .v _=>true
 | .agg cs=>bCx cs
 | _=>false
def bCx:List PV→Bool
 | []=>true
 | x::r=>ffP x && bCx r
end
theorem aWq:∀ {l:List PV},bCx l=true→∀ (i:Nat) (h:i<l.length),ffP l[i]=true
 | [],_,i,h=>by simp at h
 | x::r,hl,i,h=>by
  rw [bCx,kQ7] at hl
  cases i with
  | zero=>exact hl.1
  | succ i=>exact aWq hl.2 i (by simpa using h)
theorem aOc{α:Type}(g:α→PV)(h:∀ x,ffP (g x)=true):∀ l:List α,bCx (l.map g)=true
 | []=>rfl
 | x::r=>by rw [gZ,bCx,h,aOc g h r];rfl
theorem cN.anyF{F F':Nat→Prop}{w w':World}{x:PV}{u:Value}(h:cN F w x u)(hm:ffP x=true):cN F' w' x u:=by
 induction h with
 | v x=>exact .v x
 | agg cs vs h0 h1 _ ih =>
  rw [ffP] at hm
  exact .agg cs vs h0 h1 fun i hi=>ih i hi (aWq hm i hi)
 | sl=>simp [ffP] at hm
 | mp=>simp [ffP] at hm
 | rp=>simp [ffP] at hm

def tX(x:List Int):PV := .agg (x.map aB)
def kX(es:List (Value × PV))(x:List Int):List (Value × PV):=if dS es (.int .i64 (dN x)) then pO es (.int .i64 (dN x)) (tX x) else es++[(.int .i64 (dN x),tX x)]
def atF(q:Lqq):List (Value × PV):=q.foldl kX []
theorem aOd(q:Lqq)(x:List Int):atF (q++[x])=kX (atF q) x:=by unfold atF;rw [aJh];rfl
structure yH (es:List (Value × PV)):Prop where
 ky:∀ e∈es,aMs .i64 e.1=true
 nd:(es.map fun e=>iZ e.1).Nodup
 nm:∀ e∈es,ffP e.2=true
theorem aEf{kv:Value}{x:PV}:∀ (es:List (Value × PV)),((pO es kv x).map fun e=>iZ e.1)=es.map fun e=>iZ e.1
 | []=>rfl
 | e::r=>by
  unfold pO
  split
  ·rename_i h
   rw [gZ,gZ,h]
  ·rw [gZ,gZ,aEf r]
theorem aEg{kv:Value}{x:PV}{e:Value × PV}:∀ {es:List (Value × PV)},e∈pO es kv x→e∈es∨e=(kv,x)
 | [],h=>by unfold pO at h;cases h
 | a::r,h=>by
  unfold pO at h
  split at h
  ·rcases jH.1 h with h | h
   ·exact .inr h
   ·exact .inl (kQ6 _ h)
  ·rcases jH.1 h with h | h
   ·exact .inl (h ▸ gY ..)
   ·rcases aEg h with h | h
    ·exact .inl (kQ6 _ h)
    ·exact .inr h
theorem aWr(x:List Int):ffP (tX x)=true:=by unfold tX;rw [ffP];exact aOc _ (fun _=>rfl) _
theorem yH.step{es:List (Value × PV)}(h:yH es){x:List Int}(hx : -1000000≤dN x∧dN x≤1000000):yH (kX es x):=by
 unfold kX;cases hb:dS es (.int .i64 (dN x)) with
 | true =>
  rw [if_pos rfl];refine ⟨fun e he => ?_,by rw [aEf];exact h.nd,fun e he => ?_⟩
  ·rcases aEg he with h1 | rfl
   ·exact h.ky e h1
   ·exact oK hx
  ·rcases aEg he with h1 | rfl
   ·exact h.nm e h1
   ·exact aWr x
 | false =>
  rw [if_neg (by simp)]
  refine ⟨fun e he => ?_,?_,fun e he => ?_⟩
  ·rcases jB.1 he with h1 | h1
   ·exact h.ky e h1
   ·rw [List.mem_singleton.1 h1];exact oK hx
  ·rw [gJ,List.nodup_append]
   refine ⟨h.nd,by simp,fun a ha b hb' hab => ?_⟩
   simp at hb'
   subst hb';obtain ⟨e,he,rfl⟩:=kQ9.1 ha;have:=(List.any_eq_false.1 (show es.any _=false from hb)) e he
   exact this (decide_eq_true hab)
  ·rcases jB.1 he with h1 | h1
   ·exact h.nm e h1
   ·rw [List.mem_singleton.1 h1];exact aWr x
theorem bKj{q:Lqq}(hq:∀ x∈q,-1000000≤dN x∧dN x≤1000000):yH (atF q):=by
 have key:∀ (q:Lqq) (es:List (Value × PV)),(∀ x∈q,-1000000≤dN x∧dN x≤1000000)→yH es→yH (q.foldl kX es):=by
  intro q
  induction q with
  | nil=>intro es _ h;exact h
  | cons x q ih=>intro es hq h;exact ih _ (fun y hy=>hq y (kQ6 _ hy)) (h.step (hq x (gY ..)))
 exact key q [] hq ⟨fun e h=>(by cases h),by simp,fun e h=>(by cases h)⟩
theorem yH.keys{es:List (Value × PV)}(h:yH es){k:Int}(hk : -1000000≤k∧k≤1000000):cK .i64 es (.int .i64 k):=⟨h.ky,oK hk,h.nd⟩
theorem bKk{kv:Value}{x:PV}(es:List (Value × PV)):(pO es kv x).length=es.length:=by
 have:=congrArg List.length (aEf (kv:=kv) (x:=x) es);simpa using this

abbrev dkB(dl:Int)(s1 s2:PV)(a b:AV):AO := .box 176 [.p (aB dl),.p s1,.p s2,a,b]
abbrev mH(dl:Int)(sk dc:Lqq):Mem:=[some (.box 130 [.ptr 1 0]),some (dkB dl (.sl sk.length (sk.flatten.map aB)) (.sl dc.length (dc.flatten.map aB)) (.mp 2) (.mp 3)),some (.mp [] 0),some (.mp [] 0)]
abbrev yI(dl:Int)(v1 v2:Value)(mb:Nat)(es:List (Value × PV)):Mem:=[some (.box 130 [.ptr 1 0]),some (dkB dl (.v v1) (.v v2) (.mp 2) (.p (.v (.map (some mb))))),some (.mp es es.length),some .dead]
abbrev gT(dl:Int)(v1 v2:Value)(mb:Nat)(es:List (Value × PV))(x:List Int):Mem:=[some (.box 130 [.ptr 1 0]),some (dkB dl (.v v1) (.v v2) (.mp 2) (.p (.v (.map (some mb))))),some (.mp es es.length),some .dead,some (.box 44 ((x.map aB).map .p))]
theorem at4{α:Type}{a b c d x:α}{i:Nat}(h:[a,b,c,d][i]? = some x):(i=0∧x=a)∨(i=1∧x=b)∨(i=2∧x=c)∨(i=3∧x=d):=by
 match i with
 | 0=>simp at h;exact .inl ⟨rfl,h.symm⟩
 | 1=>simp at h;exact .inr (.inl ⟨rfl,h.symm⟩)
 | 2=>simp at h;exact .inr (.inr (.inl ⟨rfl,h.symm⟩))
 | 3=>simp at h;exact .inr (.inr (.inr ⟨rfl,h.symm⟩))
 | i+4=>simp at h
theorem at5'{α:Type}{a b c d e x:α}{i:Nat}(h:[a,b,c,d,e][i]? = some x):(i=0∧x=a)∨(i=1∧x=b)∨(i=2∧x=c)∨(i=3∧x=d)∨(i=4∧x=e):=by
 match i with
 | 0=>simp at h;exact .inl ⟨rfl,h.symm⟩
 | 1=>simp at h;exact .inr (.inl ⟨rfl,h.symm⟩)
 | 2=>simp at h;exact .inr (.inr (.inl ⟨rfl,h.symm⟩))
 | 3=>simp at h;exact .inr (.inr (.inr (.inl ⟨rfl,h.symm⟩)))
 | 4=>simp at h;exact .inr (.inr (.inr (.inr ⟨rfl,h.symm⟩)))
 | i+5=>simp at h
section
variable {dl:Int} {sk dc:Lqq} {v1 v2:Value} {mb:Nat} {es:List (Value × PV)} {x:List Int} {C C' C3:Cx} {w W W3 W4:World}

theorem tG{i:Nat}{o:AO}(h:(yI dl v1 v2 mb es)[i]? = some (some o))(hl:o.live=true):i=0∨i=1∨i=2:=by
 rcases at4 h with ⟨rfl,_⟩ | ⟨rfl,_⟩ | ⟨rfl,_⟩ | ⟨rfl,e⟩
 ·exact .inl rfl
 ·exact .inr (.inl rfl)
 ·exact .inr (.inr rfl)
 ·cases e;cases hl
theorem eU(i:Nat)(h:i<4):∃ o,(mH dl sk dc)[i]? = some (some o)∧o.live=true:=by
 match i,h with
 | 0,_=>exact ⟨_,rfl,rfl⟩
 | 1,_=>exact ⟨_,rfl,rfl⟩
 | 2,_=>exact ⟨_,rfl,rfl⟩
 | 3,_=>exact ⟨_,rfl,rfl⟩
theorem bKl:aKj (mH dl sk dc) (yI dl v1 v2 mb es):=⟨fun i es cl h=>(by
 rcases at4 h with ⟨rfl,e⟩ | ⟨rfl,e⟩ | ⟨rfl,e⟩ | ⟨rfl,e⟩
 ·cases e
 ·cases e
 ·exact ⟨_,rfl,rfl⟩
 ·cases e),fun i o h=>by
 rcases at4 h with ⟨rfl,e⟩ | ⟨rfl,e⟩ | ⟨rfl,e⟩ | ⟨rfl,e⟩ <;> cases e <;> rfl⟩

structure aOe (dl:Int) (sk dc:Lqq) (v1 v2:Value) (C:Cx) (w:World) (mb:Nat) (q:Lqq) (W:World) (C':Cx) (es:Array MapEntry) (cl:Nat) (L:List Ent):Prop where
 inv:aFu Tp C (mH dl sk dc) w C' (yI dl v1 v2 mb (atF q)) W
 ok:mI mb es L
 ls:L.map (fun e=>(e.k,e.l))=q.foldl jJ []
 born:∀ y∈es.toList,y.born<cl
 has:∀ p∈iL mb es cl L,W.heap[p.1]? = some p.2∧¬ C'.F p.1∧(p.1=mb∨w.heap.size≤p.1)

theorem aOe.own{q:Lqq}{W':World}{ea:Array MapEntry}{cl:Nat}{L:List Ent}{row:Option Nat}(hM0:aR Tp C (mH dl sk dc) w)(hmb:C.ι 3=some mb)(h:aOe dl sk dc v1 v2 C w mb q W C' ea cl L)(hg:W.grownBy W' row)
  (hr:∀ r,row=some r→w.heap.size≤r∧∃ o:Obj,W.heap[r]? = some o∧o.isCells=false):aOe dl sk dc v1 v2 C w mb q W' C' ea cl L:=by
 refine ⟨aFu.own bKl hM0 h.inv hg hr,h.ok,h.ls,h.born,fun p hp => ?_⟩
 obtain ⟨h1,h2,h3⟩:=h.has p hp;refine ⟨(hg.block p.1 (cA h1) fun e => ?_).trans h1,h2,h3⟩
 obtain ⟨q1,o,q2,q3⟩:=hr _ e.symm
 rcases cZ.1 hp with rfl | ⟨y,_,rfl⟩
 ·have:=hM0.lt 3 _ mb rfl rfl hmb
  dsimp only at q1
  omega
 ·rw [q2] at h1
  cases h1;cases q3

theorem aWs{b:Nat}{X:Nat→Prop}{es':List (Value × PV)}(hM0:aR Tp C (mH dl sk dc) w)(hmb:C.ι 3=some mb)(hI:aFu Tp C (mH dl sk dc) w C' (yI dl v1 v2 mb es) W)(hb:w.heap.size≤b)(hbs:mF W b)(hes:yH es')
  (hM3:aR Tp C3 (gT dl v1 v2 mb es' x) W3) (f:Fr ((C'.grow 4 b 1).with []) (gT dl v1 v2 mb es x) W C3 (gT dl v1 v2 mb es' x) W3)
  (hsz:W3.heap.size≤W4.heap.size) (ho:W4.os=W3.os) (ht:W4.tape=W3.tape) (hu:W4.output=W3.output)
  (hX:∀ c,X c→¬ C.F c∧(c=mb∨w.heap.size≤c)∧c<W.heap.size∧c≠b∧(mF W c∨c<w.heap.size)) (hk:∀ c,c<W3.heap.size→¬ X c→W4.heap[c]? = W3.heap[c]?) :
  ∃ C4,aFu Tp C (mH dl sk dc) w C4 (yI dl v1 v2 mb es') W4∧KeepsFrom w.heap.size W W4∧KpG C.F W W4:=by
 obtain ⟨hFI,hM,fI⟩:=hI;have gι:∀ i,i<4→(C'.grow 4 b 1).ι i=C'.ι i:=fun i hi=>by
  have:i≠4:=by omega
  simp [Cx.grow,this]
 have ιC:∀ i,i<4→C'.ι i=C.ι i:=fun i hi=>by
  obtain ⟨o,h1,_⟩:=eU (dl:=dl) (sk:=sk) (dc:=dc) i hi;exact (fI.ids i o h1).2.1
 have κC:∀ i,i<4→C'.κ i=C.κ i:=fun i hi=>by
  obtain ⟨o,h1,_⟩:=eU (dl:=dl) (sk:=sk) (dc:=dc) i hi;exact (fI.ids i o h1).2.2
 have ι3:∀ i,i<5→C3.ι i=(C'.grow 4 b 1).ι i∧C3.κ i=(C'.grow 4 b 1).κ i:=fun i hi=>by
  have:∃ o,(gT dl v1 v2 mb es x)[i]? = some (some o):=by
   match i,hi with
   | 0,_=>exact ⟨_,rfl⟩
   | 1,_=>exact ⟨_,rfl⟩
   | 2,_=>exact ⟨_,rfl⟩
   | 3,_=>exact ⟨_,rfl⟩
   | 4,_=>exact ⟨_,rfl⟩
  obtain ⟨o,h⟩:=this;exact ⟨(f.ids i o h).2.1,(f.ids i o h).2.2⟩
 have ι4:(C'.grow 4 b 1).ι 4=some b:=by simp [Cx.grow]
 have live5:∀ (i:Nat) (o:AO) (c:Nat) (es0:List (Value × PV)),(gT dl v1 v2 mb es0 x)[i]? = some (some o)→o.live=true→(C'.grow 4 b 1).ι i=some c→(∃ i,i<3∧C.ι i=some c)∨c=b:=fun i o c es0 h hl he=>by
  rcases at5' h with ⟨rfl,_⟩ | ⟨rfl,_⟩ | ⟨rfl,_⟩ | ⟨rfl,e⟩ | ⟨rfl,_⟩
  ·rw [gι 0 (by omega),ιC 0 (by omega)] at he;exact .inl ⟨0,by omega,he⟩
  ·rw [gι 1 (by omega),ιC 1 (by omega)] at he;exact .inl ⟨1,by omega,he⟩
  ·rw [gι 2 (by omega),ιC 2 (by omega)] at he;exact .inl ⟨2,by omega,he⟩
  ·cases e;cases hl
  ·rw [ι4] at he;exact .inr (Option.some.inj he).symm
 have lt3:∀ i c,i<3→C.ι i=some c→c<w.heap.size∧c≠mb:=fun i c hi hc=>by
  obtain ⟨o,h1,h2⟩:=eU (dl:=dl) (sk:=sk) (dc:=dc) i (by omega)
  refine ⟨hM0.lt i o c h1 h2 hc,fun e => ?_⟩
  subst e;have:=hM0.inj i 3 o _ c h1 h2 rfl rfl hc hmb;omega
 have Xn3:∀ c,X c→∀ i,i<3→C.ι i≠some c:=fun c hc i hi he=>by
  obtain ⟨h1,h2⟩:=lt3 i c hi he
  rcases (hX c hc).2.1 with h3 | h3
  ·exact h2 h3
  ·omega
 have far:∀ c,c<W.heap.size→c≠b→(∀ i,i<3→C.ι i≠some c)→¬ X c→W4.heap[c]? = W.heap[c]? := fun c hc hcb hn hx=>by
  refine (hk c (kQ8 hc f.size) hx).trans (f.keep c hc fun i o h hl he => ?_)
  rcases live5 i o c _ h hl he with ⟨j,hj,h2⟩ | h2
  ·exact hn j hj h2
  ·exact hcb h2
 have XF3:∀ c,X c→¬ C3.F c:=fun c hc hf=>by
  obtain ⟨h1,h2,h3,h4,_⟩:=hX c hc
  rcases f.F2 c hf with h | h | ⟨i,o,q1,q2,q3⟩
  ·exact h1 ((hFI c).1 h)
  ·omega
  ·rcases live5 i o c _ q1 q2 q3 with ⟨j,hj,h5⟩ | h5
   ·exact Xn3 c hc j hj h5
   ·exact h4 h5
 obtain ⟨hM4,_⟩:=aEi hM3 hsz (fun c hc=>hk c (hM3.Fs c hc) fun hx=>XF3 c hx hc) (fun i o c h hl hc=>hk c (hM3.lt i o c h hl hc) fun hx=>by
  have hi5:i<5:=(kQ3.1 h).1;rw [(ι3 i hi5).1] at hc
  rcases live5 i o c _ h hl hc with ⟨j,hj,h5⟩ | h5
  ·exact Xn3 c hx j hj h5
  ·exact (hX c hx).2.2.2.1 h5)
 have hM5:aR Tp C3 (yI dl v1 v2 mb es') W4:=bQw hM4 (fun i o h=>by
   have hi:i<4:=(kQ3.1 h).1
   match i,hi with
   | 0,_=>exact h
   | 1,_=>exact h
   | 2,_=>exact h
   | 3,_=>exact h) (fun i ty cs h y hy u hu=>by
   rcases at4 h with ⟨rfl,e⟩ | ⟨rfl,e⟩ | ⟨rfl,e⟩ | ⟨rfl,e⟩
   ·cases e
    rw [List.mem_singleton.1 hy] at hu ⊢
    exact aOk (M:=gT dl v1 v2 mb es' x) rfl hu
   ·cases e
    simp only [jH,List.not_mem_nil,or_false] at hy
    rcases hy with rfl | rfl | rfl | rfl | rfl
    ·exact tJ hu
    ·exact tJ hu
    ·exact tJ hu
    ·exact aTp (M:=gT dl v1 v2 mb es' x) rfl hu
    ·exact tJ hu
   ·cases e
   ·cases e)
 have lt4:∀ i (c:Nat),i<4→C3.ι i=some c→C.ι i=some c:=fun i c hi hc=>by rw [(ι3 i (by omega)).1,gι i hi,ιC i hi] at hc;exact hc
 have hM6:aR Tp ⟨C3.ι,C3.κ,C.F,[]⟩ (yI dl v1 v2 mb es') W4:=by
  refine ⟨fun i ty n cs h => ?_,fun i ty cs h => ?_,fun i es0 cl h => ?_,hM5.inj,fun i o c h hl hc => ?_,fun c hc=>kQ8 (hM0.Fs c hc) (fT fI.size (fT f.size hsz)),hM5.lt⟩
  ·rcases at4 h with ⟨rfl,e⟩ | ⟨rfl,e⟩ | ⟨rfl,e⟩ | ⟨rfl,e⟩ <;> cases e
  ·obtain ⟨b',arr,q0,q1,q2,q3,q4⟩:=hM5.box _ _ _ h
   refine ⟨b',arr,q0,q1,q2,fun j hj => ?_,q4⟩
   have hq:=q3 j hj;have hp:∀ (y:PV) (u:Value),ffP y=true→Rep C3 (yI dl v1 v2 mb es') W4 (.p y) u→Rep ⟨C3.ι,C3.κ,C.F,[]⟩ (yI dl v1 v2 mb es') W4 (.p y) u:=fun y u hy hu=>by
    cases hu with
    | p _ _ h=>exact .p _ _ (h.anyF hy)
   rcases at4 h with ⟨rfl,e⟩ | ⟨rfl,e⟩ | ⟨rfl,e⟩ | ⟨rfl,e⟩
   ·cases e
    have:j=0:=by simp at hj;exact hj
    subst this;simp only [List.getElem_cons_zero] at hq ⊢
    cases hq with
    | ptr _ _ _ h0 ha h hp=>exact .ptr _ _ _ h0 ha h hp
   ·cases e
    match j,hj with
    | 0,_=>exact hp _ _ rfl hq
    | 1,_=>exact hp _ _ rfl hq
    | 2,_=>exact hp _ _ rfl hq
    | 3,_ =>
     simp only [List.getElem_cons_succ,List.getElem_cons_zero] at hq ⊢
     cases hq with
     | mp _ _ h0 ha h=>exact .mp _ _ h0 ha h
    | 4,_=>exact hp _ _ rfl hq
   ·cases e
   ·cases e
  ·obtain ⟨b',arr,q0,q1,q2,q3⟩:=hM5.mp _ _ _ h
   refine ⟨b',arr,q0,q1,q2,fun j hj => ?_⟩
   obtain ⟨en,r1,r2,r3,r4⟩:=q3 j hj;have hff:ffP es0[j].2=true:=by
    rcases at4 h with ⟨rfl,e⟩ | ⟨rfl,e⟩ | ⟨rfl,e⟩ | ⟨rfl,e⟩
    ·cases e
    ·cases e
    ·cases e;exact hes.nm _ (gS hj)
    ·cases e
   exact ⟨en,r1,r2,r3,r4.anyF hff⟩
  ·have hi:=tG h hl
   obtain ⟨o2,h1,h2⟩:=eU (dl:=dl) (sk:=sk) (dc:=dc) i (by omega)
   exact hM0.nF i o2 c h1 h2 (lt4 i c (by omega) hc)
 refine ⟨⟨C3.ι,C3.κ,C.F,[]⟩,⟨fun c=>Iff.rfl,hM6,⟨ho.trans (f.os.trans fI.os),ht.trans (f.tape.trans fI.tape),hu.trans (f.out.trans fI.out),fT fI.size (fT f.size hsz),fun c hc hno => ?_,fun i o h => ?_,fun i o h ty n cs hm => ?_,fun i o h o' hm hl => ?_,fun i o c hm hl hc => ?_,fun c hc=>hc,fun c hc => .inl hc⟩⟩,⟨fT f.size hsz,fun c o hc ho1 hnc => ?_⟩,⟨fT f.size hsz,fun c hc => ?_⟩⟩
 ·have hn3:∀ i,i<3→C.ι i≠some c:=fun i hi=>by
   obtain ⟨o,h1,h2⟩:=eU (dl:=dl) (sk:=sk) (dc:=dc) i (by omega)
   exact hno i o h1 h2
  have hcm:c≠mb:=fun e=>hno 3 _ rfl rfl (e ▸ hmb)
  refine (far c (kQ8 hc fI.size) (by omega) hn3 fun hx => ?_).trans (fI.keep c hc hno)
  rcases (hX c hx).2.1 with h | h
  ·exact hcm h
  ·omega
 ·have hi:i<4:=(kQ3.1 h).1
  refine ⟨?_,by show C3.ι i=C.ι i;rw [(ι3 i (by omega)).1,gι i hi,ιC i hi],by
   show C3.κ i=C.κ i;rw [(ι3 i (by omega)).2,← κC i hi]
   have:i≠4:=by omega
   simp [Cx.grow,this]⟩
  match i,hi with
  | 0,_=>exact ⟨_,rfl⟩
  | 1,_=>exact ⟨_,rfl⟩
  | 2,_=>exact ⟨_,rfl⟩
  | 3,_=>exact ⟨_,rfl⟩
 ·rcases at4 hm with ⟨rfl,e⟩ | ⟨rfl,e⟩ | ⟨rfl,e⟩ | ⟨rfl,e⟩ <;> cases e
 ·have hi:i<4:=(kQ3.1 h).1
  obtain ⟨o2,h1,h2⟩:=eU (dl:=dl) (sk:=sk) (dc:=dc) i hi;rw [h] at h1;cases h1;exact h2
 ·have hi:=tG hm hl
  have hi4:i<4:=by omega
  obtain ⟨o2,h1,h2⟩:=eU (dl:=dl) (sk:=sk) (dc:=dc) i hi4;exact .inr ⟨i,o2,h1,h2,by rw [← ιC i hi4,← gι i hi4,← (ι3 i (by omega)).1];exact hc⟩
 ·refine (far c (cA ho1) (fun e => ?_) (fun i hi he => ?_) fun hx => ?_).trans ho1
  ·subst e
   obtain ⟨o2,e1,e2⟩:=hbs;rw [ho1] at e1;cases e1;rw [hnc] at e2;cases e2
  ·have:=(lt3 i c hi he).1
   omega
  ·rcases (hX c hx).2.2.2.2 with ⟨o2,h1,h2⟩ | h
   ·rw [ho1] at h1;cases h1;rw [hnc] at h2;cases h2
   ·omega
 ·refine far c (kQ8 (hM0.Fs c hc) fI.size) (fun e => ?_) (fun i hi he => ?_) fun hx=>(hX c hx).1 hc
  ·have:=hM0.Fs c hc;omega
  ·obtain ⟨o,h1,h2⟩:=eU (dl:=dl) (sk:=sk) (dc:=dc) i (by omega)
   exact hM0.nF i o c h1 h2 he hc
end
end KV
end Go.Proofs
end
section
namespace Go.Proofs
open Go.RowKit
namespace KV
open Go.ChangeMaps (setBlock)

def tW(e:Ent):Int × Lqq:=(e.k,e.l)
theorem bXj(L:List Ent)(e:Ent):(pK L e).map tW=aFt (L.map tW) e.k e.l:=by
 by_cases h:∃ y∈L,y.k=e.k
 ·obtain ⟨y,hy,he⟩:=h
  rw [sJ hy he];unfold aFt;rw [if_pos (List.any_eq_true.2 ⟨tW y,kQ9.2 ⟨y,hy,rfl⟩,by simpa [tW] using he⟩),tS,tS]
  refine aAj fun z _ => ?_
  by_cases hk:z.k=e.k
  ·simp [tW,hk]
  ·simp [tW,hk]
 ·have h':∀ y∈L,y.k≠e.k:=fun y hy he=>h ⟨y,hy,he⟩
  rw [xB h'];unfold aFt;rw [if_neg (fun ha=>by
   obtain ⟨z,hz,he⟩:=List.any_eq_true.1 ha;obtain ⟨y,hy,rfl⟩:=kQ9.1 hz;exact h' y hy (by simpa [tW] using he))]
  simp [tW]
theorem bQg(L:List Ent)(k:Int):pJ L k=zT (L.map tW) k:=by
 unfold pJ sI zT
 induction L with
 | nil=>rfl
 | cons y r ih =>
  rw [gZ,List.find?_cons,List.find?_cons]
  by_cases hk:y.k=k
  ·simp [tW,hk]
  ·have h1:(y.k == k)=false:=by simpa using hk
   have h2:((tW y).1 == k)=false:=h1;rw [h1,h2];exact ih

structure bKh (x:List Int):Prop where
 len:x.length=6
 n:1≤dN x∧dN x≤9999
 ab:0≤dAb x∧dAb x≤9998
theorem bXk{q:Lqq}(hq:∀ y∈q,bKh y):∀ e∈q.foldl jJ [],e.2.length≤q.length:=fun e he=>by
 have:=yF q [] [] ⟨by simp,fun e h=>(by cases h),fun x h=>(by cases h)⟩ (fun x hx=>(hq x hx).ab.1)
 rw [List.nil_append] at this
 rw [(this.mem e he).2.2];exact tR _ _

theorem ask78{dl:Int}{v1 v2:Value}{mb:Nat}{es:List (Value × PV)}{x:List Int}(hx:bKh x)(hes:yH es):fD Tp 5 (sub (cd Tryz.f82) [1,1,1,1,0,1,0,1,0,0]) ⟨fr 57 [(6,(.ptr 0 0)),(8,(.ptr 4 0))],gT dl v1 v2 mb es x⟩ .normal ⟨fr 57 [(6,(.ptr 0 0)),(8,(.ptr 4 0))],gT dl v1 v2 mb (kX es x) x⟩:=by
 obtain ⟨a,b,c,d,e,f,rfl⟩:=len6 hx.len;have hk : -1000000≤dN [a,b,c,d,e,f]∧dN [a,b,c,d,e,f]≤1000000:=by have:=hx.n;omega
 have hK:=hes.keys hk;unfold kX;cases hb:dS es (.int .i64 (dN [a,b,c,d,e,f])) with
 | true =>
  rw [if_pos rfl];exact (bQj hK hb).cast (by unfold gT;rw [bKk];rfl)
 | false =>
  rw [if_neg (by simp)]
  exact (bQk hK hb).cast (by unfold gT;rw [kT];rfl)
theorem ask8'{dl:Int}{v1 v2:Value}{mb:Nat}{es:List (Value × PV)}{x:List Int}(hx:x.length=6):fD Tp 5 (sub (cd Tryz.f82) [1,1,1,1,0,1,0,1,0,1,0]) ⟨fr 57 [(6,(.ptr 0 0)),(8,(.ptr 4 0))],gT dl v1 v2 mb es x⟩ .normal ⟨fr 57 [(6,(.ptr 0 0)),(8,(.ptr 4 0)),(39,(.p (blP (decide (dAb x > (0:Int))))))],gT dl v1 v2 mb es x⟩:=by
 obtain ⟨a,b,c,d,e,f,rfl⟩:=len6 hx;exact bQl
theorem bCw:sub (cd Tryz.f82) [1,1,1,1,0,1,0,1] = .block 1 (.seq (sub (cd Tryz.f82) [1,1,1,1,0,1,0,1,0,0]) (.seq (sub (cd Tryz.f82) [1,1,1,1,0,1,0,1,0,1,0]) (.cond (.tmp 39) (sub (cd Tryz.f82) [1,1,1,1,0,1,0,1,0,1,1,0]) .skip))):=by kernel_rfl

section
variable {dl:Int} {sk dc:Lqq} {v1 v2:Value} {mb:Nat} {C C':Cx} {w W:World}
set_option maxHeartbeats 1000000 in
theorem bKi{l n b:Nat}{q:Lqq}{x:List Int}{ea:Array MapEntry}{cl:Nat}{L:List Ent}{a:Act}(hx:bKh x)(hq:∀ y∈q,bKh y)(hql:q.length≤1000)(hM0:aR Tp C (mH dl sk dc) w)(hmb:C.ι 3=some mb)(hI:aOe dl sk dc v1 v2 C w mb q W C' ea cl L)
  (hsz:a.tmps.size=57) (hdf:a.defers=[]) (h6:Rep C (mH dl sk dc) w (.ptr 0 0) (a.tmps.getD 6 undef)) (h8:a.tmps.getD 8 undef = .pointer (some ⟨b,0,none⟩)) (hbw:w.heap.size≤b) (hbx:W.heap[b]? = some (.cells (vsL x).toArray 44 (0,0)))
  (hbn:∀ es cl,W.heap[mb]? = some (.map es cl)→∀ y∈es.toList,y.val.ownBlock≠some b) :
  (sub (cd Tryz.f82) [1,1,1,1,0,1,0,1]).wpIn (Fen (some l)) n Tp (fun e _ W4=>e = .normal∧KeepsFrom w.heap.size W W4∧KpG C.F W W4∧∃ C4 ea' cl' L',aOe dl sk dc v1 v2 C w mb (q++[x]) W4 C4 ea' cl' L') a W:=by
 obtain ⟨inv,hok,hls,hborn,hhas⟩:=hI;obtain ⟨hFI,hM,fI⟩:=inv;have hAt:yH (atF q):=bKj fun y hy=>by have:=(hq y hy).n;omega
 have hmbh:=(hhas (mb,.map ea cl) (by simp [iL])).1
 have hmblt:mb<w.heap.size:=hM0.lt 3 _ mb rfl rfl hmb;have ιC:∀ i,i<4→C'.ι i=C.ι i:=fun i hi=>by
  obtain ⟨o,h1,_⟩:=eU (dl:=dl) (sk:=sk) (dc:=dc) i hi;exact (fI.ids i o h1).2.1
 have lt3:∀ i c,i<3→C.ι i=some c→c<w.heap.size∧c≠mb:=fun i c hi hc=>by
  obtain ⟨o,h1,h2⟩:=eU (dl:=dl) (sk:=sk) (dc:=dc) i (by omega)
  refine ⟨hM0.lt i o c h1 h2 hc,fun e => ?_⟩
  subst e;have:=hM0.inj i 3 o _ c h1 h2 rfl rfl hc hmb;omega
 have hbF:¬ C'.F b:=fun h=>by have:=hM0.Fs b ((hFI b).1 h);omega
 obtain ⟨hM5,hL5⟩:=aOl (b:=b) (ty:=44) (k:=4) (cs:=x.map aB) (arr:=(vsL x).toArray) hM (fun o h=>by have:=(kQ3.1 h).1;simp at this) hbx hbF (fun i o h hl he=>by
   have hi:=tG h hl;rw [ιC i (by omega)] at he
   have:=(lt3 i b (by omega) he).1
   omega) (by simp [vsL]) (fun j hj=>by
   have hj':j<x.length:=by simpa using hj
   rw [mZ];have:(vsL x).toArray.getD j undef = .int .i64 x[j]:=by simp [vsL,kQ2,hj']
   rw [this];exact .v _) (fun j hj=>by
   have hj':j<x.length:=by simpa using hj
   have:(vsL x).toArray.getD j undef = .int .i64 x[j]:=by simp [vsL,kQ2,hj']
   rw [this];rfl)
 have hset:aZ (yI dl v1 v2 mb (atF q)) 4 (some (.box 44 ((x.map aB).map .p)))=gT dl v1 v2 mb (atF q) x:=rfl;rw [hset] at hM5 hL5
 have h6':Rep (C'.grow 4 b 1) (gT dl v1 v2 mb (atF q) x) W (.ptr 0 0) (a.tmps.getD 6 undef):=(h6.mono (hM0.le fI)).mono hL5;have hSl:eI (C'.grow 4 b 1) (gT dl v1 v2 mb (atF q) x) W (fr 57 [(6,(.ptr 0 0)),(8,(.ptr 4 0))]) a.tmps:=by
  have s0:eI (C'.grow 4 b 1) (gT dl v1 v2 mb (atF q) x) W (List.replicate 57 .any) a.tmps:=⟨by simpa using hsz,fun j hj=>by rw [List.getElem_replicate];exact .any _⟩
  have set1:∀ (t:List AV) (i:Nat) (y:AV),eI (C'.grow 4 b 1) (gT dl v1 v2 mb (atF q) x) W t a.tmps→Rep (C'.grow 4 b 1) (gT dl v1 v2 mb (atF q) x) W y (a.tmps.getD i undef)→eI (C'.grow 4 b 1) (gT dl v1 v2 mb (atF q) x) W (t.set i y) a.tmps:=fun t i y ht hy=>by
   refine ⟨by simpa using ht.size,fun j hj => ?_⟩
   rw [xU]
   split
   ·rename_i e;subst e;exact hy
   ·exact ht.rep j (by simpa using hj)
  have h8':Rep (C'.grow 4 b 1) (gT dl v1 v2 mb (atF q) x) W (.ptr 4 0) (a.tmps.getD 8 undef):=by
   rw [h8];exact .ptr 4 0 _ rfl ⟨_,rfl⟩ (fun o ho hl=>⟨b,rfl,by simp [Cx.grow]⟩) ⟨b,rfl⟩
  exact set1 _ 8 _ (set1 _ 6 _ s0 h6') h8'
 have hs:Sim Tp ((C'.grow 4 b 1).with []) (gT dl v1 v2 mb (atF q) x) W ⟨fr 57 [(6,(.ptr 0 0)),(8,(.ptr 4 0))],gT dl v1 v2 mb (atF q) x⟩ a W :=
  ⟨C'.grow 4 b 1,hSl,hM5,(Fr.refl _ _ _).based [],by rw [hdf];exact .nil rfl (fun i o h=>by rcases at5' h with ⟨rfl,e⟩ | ⟨rfl,e⟩ | ⟨rfl,e⟩ | ⟨rfl,e⟩ | ⟨rfl,e⟩ <;> cases e <;> rfl)⟩
 rw [bCw];refine wpIn_block (wpIn_seq (wpIn_mono (ask78 (dl:=dl) (v1:=v1) (v2:=v2) (mb:=mb) hx hAt _ _ _ _ _ (by simp) hs (some l) n) ?_))
 rintro e a7 W7 ⟨rfl,hs7⟩;refine wpIn_seq (wpIn_mono (ask8' (dl:=dl) (v1:=v1) (v2:=v2) (mb:=mb) hx.len _ _ _ _ _ (by simp) hs7 (some l) n) ?_)
 rintro e a8 W3 ⟨rfl,hs8⟩;have v39:a8.eval (.tmp 39) = .bool (decide (dAb x > 0)):=hs8.slot rfl;have hsz8:a8.tmps.size=57:=hs8.size;obtain ⟨C3,hS3,hM3,f3,_⟩:=hs8;have hblkL:∀ p∈iL mb ea cl L,p.1≠b∧p.1<W.heap.size∧(∀ i,i<3→C.ι i≠some p.1):=fun p hp=>by
  obtain ⟨q1,q2,q3⟩:=hhas p hp;refine ⟨?_,cA q1,fun i hi he => ?_⟩
  ·rcases cZ.1 hp with rfl | ⟨y,hy,rfl⟩
   ·intro e;simp only at e;omega
   ·intro e
    obtain ⟨z,hz,_,z2⟩:=hok.e2 y hy;exact hbn ea cl hmbh z hz (by rw [z2,← e];rfl)
  ·obtain ⟨h1,h2⟩:=lt3 i _ hi he
   rcases q3 with h | h
   ·exact h2 h
   ·omega
 have gι:∀ i,i<4→(C'.grow 4 b 1).ι i=C'.ι i:=fun i hi=>by
  have:i≠4:=by omega
  simp [Cx.grow,this]
 have hR3:∀ p∈iL mb ea cl L,W3.heap[p.1]? = some p.2:=fun p hp=>by
  obtain ⟨h1,h2,h3⟩:=hblkL p hp;refine (f3.keep p.1 h2 fun i o h hl he => ?_).trans (hhas p hp).1
  change (C'.grow 4 b 1).ι i=some p.1 at he
  rcases at5' h with ⟨rfl,_⟩ | ⟨rfl,_⟩ | ⟨rfl,_⟩ | ⟨rfl,e⟩ | ⟨rfl,_⟩
  ·rw [gι 0 (by omega),ιC 0 (by omega)] at he;exact h3 0 (by omega) he
  ·rw [gι 1 (by omega),ιC 1 (by omega)] at he;exact h3 1 (by omega) he
  ·rw [gι 2 (by omega),ιC 2 (by omega)] at he;exact h3 2 (by omega) he
  ·cases e;cases hl
  ·simp [Cx.grow] at he;exact h1 he.symm
 have hAt':yH (kX (atF q) x):=hAt.step (by have:=hx.n;omega)
 have hSol:mF W b:=fN hbx;refine wpIn_cond_split v39 (fun ht => ?_) fun hf => ?_
 ·-- it is about another one
  have hpos:0<dAb x:=of_decide_eq_true ht;obtain ⟨b6,a6,r0,r1,r2,r3,_⟩:=hM3.box 0 _ _ rfl;have r3:=r3 0 (by simp)
  simp only [List.getElem_cons_zero] at r3
  have u6:∃ bd,a6.getD 0 undef = .pointer (some ⟨bd,0,none⟩)∧C3.ι 1=some bd:=by
   generalize a6.getD 0 undef=u at r3
   cases r3 with
   | ptr _ _ _ h0 ha h hp=>exact h _ rfl rfl
  obtain ⟨bd,ud,ιd⟩:=u6;obtain ⟨bd',ad,s0,s1,s2,s3,_⟩:=hM3.box 1 _ _ rfl;rw [ιd] at s0;cases s0
  have s3:=s3 4 (by simp)
  simp only [List.getElem_cons_succ,List.getElem_cons_zero] at s3
  have udm:ad.getD 4 undef = .map (some mb):=by
   generalize ad.getD 4 undef=u at s3
   cases s3 with
   | p _ _ h=>cases h;rfl
  obtain ⟨b8,a8',t0,t1,t2,t3,_⟩:=hM3.box 4 _ _ rfl;have ι4:C3.ι 4=some b:=by rw [(f3.ids 4 _ rfl).2.1];simp [Cx.with,Cx.grow]
  rw [ι4] at t0;cases t0
  have ha8:a8'=(vsL x).toArray:=by
   apply Array.ext
   ·rw [t2];simp [vsL]
   ·intro j h1 h2
    have hj:j<x.length:=by rw [t2] at h1;simpa using h1
    have:=t3 j (by simpa using hj)
    rw [mZ,mZ] at this
    have hu:a8'.getD j undef = .int .i64 x[j]:=by
     generalize a8'.getD j undef=u at this
     cases this with
     | p _ _ h=>cases h;rfl
    simp only [kQ2,qY h1,Option.getD_some] at hu
    rw [hu];simp [vsL]
  subst ha8;have w6:a8.tmps.getD 6 undef = .pointer (some ⟨b6,0,none⟩):=by
   have:=hS3.at (i:=6) (x := .ptr 0 0) rfl
   generalize a8.tmps.getD 6 undef=u at this
   cases this with
   | ptr _ _ _ h0 ha h hp =>
    obtain ⟨b',h1,h2⟩:=h _ rfl rfl;rw [r0] at h2;cases h2
    exact h1
  have w8:a8.tmps.getD 8 undef = .pointer (some ⟨b,0,none⟩):=by
   have:=hS3.at (i:=8) (x := .ptr 4 0) rfl
   generalize a8.tmps.getD 8 undef=u at this
   cases this with
   | ptr _ _ _ h0 ha h hp =>
    obtain ⟨b',h1,h2⟩:=h _ rfl rfl;rw [ι4] at h2;cases h2
    exact h1
  have hLl:∀ e∈L,e.l.length≤1000:=fun e he=>by
   have:tW e∈q.foldl jJ []:=by rw [← hls];exact kQ9.2 ⟨e,he,rfl⟩
   have:=bXk hq _ this;simp only [tW] at this
   omega
  have ι0:C.ι 0=some b6:=by
   have:=(f3.ids 0 _ rfl).2.1;rw [r0] at this
   rw [← ιC 0 (by omega),← gι 0 (by omega)]
   exact this.symm
  have ι1:C.ι 1=some bd:=by
   have:=(f3.ids 1 _ rfl).2.1;rw [ιd] at this
   rw [← ιC 1 (by omega),← gι 1 (by omega)]
   exact this.symm
  refine wpIn_mono (ask9 (F:=Fen (some l)) (n:=n) (fun _=>trivial) hx.len hsz8 w6 w8 r1 ⟨by rw [r2];simp,ud⟩ s1 ⟨by rw [s2];simp,udm⟩ t1 hok hR3 hLl (fun p hp => ?_) ?_) ?_
  ·obtain ⟨h1,_,h3⟩:=hblkL p hp
   exact ⟨fun e=>h3 0 (by omega) (e ▸ ι0),fun e=>h3 1 (by omega) (e ▸ ι1),h1⟩
  ·have:aMs .i64 (.int .i64 (dAb x))=true:=oK (by have:=hx.ab;omega)
   simp only [aMs,kQ7] at this
   exact this.2
  ·rintro e a9 W4 ⟨rfl,ea',cl',e,A⟩
   obtain ⟨C4,hI4,hK4,hG4⟩:=aWs (x:=x) (X:=fun c=>∃ p∈iL mb ea cl L,p.1=c) (es':=kX (atF q) x) hM0 hmb ⟨hFI,hM,fI⟩ hbw hSol hAt' hM3 f3 A.size A.os A.tape A.out (fun c hc=>by
    obtain ⟨p,hp,rfl⟩:=hc;obtain ⟨h1,h2,h3⟩:=hblkL p hp;obtain ⟨g1,g2,g3⟩:=hhas p hp;refine ⟨fun h=>g2 ((hFI _).2 h),g3,h2,h1,?_⟩
    rcases cZ.1 hp with rfl | ⟨y,_,rfl⟩
    ·exact .inr hmblt
    ·exact .inl (fN g1)) (fun c hc hn=>A.keep c hc fun p hp e=>hn ⟨p,hp,e⟩)
   refine ⟨rfl,hK4,hG4,C4,ea',cl',pK L e,by rw [aOd];exact hI4,A.ok,?_,A.born hborn,fun p hp => ?_⟩
   ·show (pK L e).map tW=_
    rw [bXj,A.ky,A.li,bQg,aJh];change aFt (L.map tW) _ _=jJ (q.foldl jJ []) x;have:L.map tW=q.foldl jJ []:=hls;rw [this];unfold jJ;rw [if_pos hpos]
   ·obtain ⟨h1,h2⟩:=A.has p hp
    refine ⟨h1,fun h => ?_,?_⟩
    ·have hF:=(hI4.1 _).1 h
     rcases h2 with ⟨p0,hp0,h3⟩ | h3
     ·rw [← h3] at hF
      exact (hhas p0 hp0).2.1 ((hFI _).2 hF)
     ·have:=hM0.Fs _ hF
      have:=fI.size;have:=f3.size;omega
    ·rcases h2 with ⟨p0,hp0,h3⟩ | h3
     ·rw [← h3];exact (hhas p0 hp0).2.2
     ·right
      have:=fI.size;have:=f3.size;omega
 ·-- it is about none
  have hpos:¬ 0<dAb x:=of_decide_eq_false hf;obtain ⟨C4,hI4,hK4,hG4⟩:=aWs (x:=x) (X:=fun _=>False) (W4:=W3) (es':=kX (atF q) x) hM0 hmb ⟨hFI,hM,fI⟩ hbw hSol hAt' hM3 f3 (dM _) rfl rfl rfl (fun c hc=>hc.elim) (fun c _ _=>rfl)
  refine wpIn_skip ⟨rfl,hK4,hG4,C4,ea,cl,L,by rw [aOd];exact hI4,hok,?_,hborn,fun p hp=>⟨hR3 p hp,fun h=>(hhas p hp).2.1 ((hFI _).2 ((hI4.1 _).1 h)),(hhas p hp).2.2⟩⟩
  rw [aJh,hls];change _=jJ (q.foldl jJ []) x;unfold jJ;rw [if_neg hpos]
end
end KV
end Go.Proofs
end
section
namespace Go.Proofs
open Go.RowKit
namespace KV
open Go.ChangeMaps (setBlock)

def abE(dc:Lqq):List (Value × PV):=(abM dc).map fun e=>(.int .i64 e.1,.sl e.2.length (e.2.flatten.map aB))
abbrev zV(dl:Int)(sk dc:Lqq):Mem:=[some (.box 130 [.ptr 1 0]),some (dkB dl (.sl sk.length (sk.flatten.map aB)) (.sl dc.length (dc.flatten.map aB)) (.mp 2) (.p (.mp (abE dc)))),some (.mp (atF dc.reverse) (atF dc.reverse).length),some .dead]
theorem aWp : sub (cd Tryz.f82) [1, 1, 1, 1, 0, 1, 0] = .rangeFunc (.tmp 27) #[28, 29] (.region 6 #[{ dst := some 8, op := .alloc 44, type := 0, pos := "jury.go:198", after := #[], guard := none }, { dst := none, op := .store 44 (.tmp 8) (.tmp 29), type := 0, pos := "jury.go:198", after := #[{ on := 0, ground := .data }, { on := 0, ground := .phase }], guard := none }] false) (sub (cd Tryz.f82) [1, 1, 1, 1, 0, 1, 0, 1]) := by kernel_rfl
theorem aTn{dc:Lqq}(h:bZ dc):∀ x∈dc,bKh x:=fun x hx=>⟨h.ud x hx,(kF.1 (h.rng x hx)).1,mS h x hx⟩
theorem aEe{dc:Lqq}(x:Bk dc):nD dc x.1∈dc:=by
 unfold nD;rw [kQ4,kQ0 x.2];exact gS x.2
theorem bKg{dc:Lqq}{xs:List (Bk dc)}(h:xs.map (fun x=>x.1)=bk dc.length 0):xs.map (fun x=>nD dc x.1)=dc.reverse:=by
 have:xs.map (fun x=>nD dc x.1)=(xs.map (fun x=>x.1)).map (nD dc):=by rw [tS];rfl
 rw [this,h,bQz,List.map_reverse]
 congr 1
 apply List.ext_getElem
 ·simp
 ·intro i h1 h2
  simp [nD,kQ4,kQ0 h2]

theorem aTo{F:Nat→Prop}{W:World}{mb cl:Nat}{ea:Array MapEntry}{L:List Ent}{dc:Lqq}(hok:mI mb ea L)(hls:L.map (fun e=>(e.k,e.l))=abM dc)(hborn:∀ y∈ea.toList,y.born<cl)
  (hhas:∀ p∈iL mb ea cl L,W.heap[p.1]? = some p.2∧F p.1):cN F W (.mp (abE dc)) (.map (some mb)):=by
 have hlen:ea.size=L.length:=by
  have:=congrArg List.length hok.ord;simpa using this
 have habE:abE dc=L.map fun e=>(.int .i64 e.k,.sl e.l.length (e.l.flatten.map aB)):=by
  unfold abE;rw [← hls,tS];rfl
 obtain ⟨h0,hF0⟩:=hhas (mb,.map ea cl) (by simp [iL])
 refine cN.mp (abE dc) mb cl ea (fun j=>(L.map Ent.val).getD j undef) hF0 h0 (by rw [habE];simpa using hlen) (fun j hj => ?_) (fun j hj => ?_)
 ·have hjL:j<L.length:=by rw [habE] at hj;simpa using hj
  have hje:j<ea.size:=by omega
  have ho:(ea.toList.map fun x=>(x.key,x.val))[j]? = (L.map fun e=>(Value.int .i64 e.k,e.val))[j]? := by rw [hok.ord]
  rw [jA,jA,kQ0 hjL,kQ0 (by simpa using hje)] at ho
  simp only [Option.map_some,Option.some.injEq,Prod.mk.injEq] at ho
  refine ⟨ea[j],qY hje,?_,hborn _ (by simp),?_⟩
  ·simp only [habE,mZ]
   simpa using ho.1
  ·rw [kQ4,jA,kQ0 hjL]
   simpa using ho.2
 ·have hjL:j<L.length:=by rw [habE] at hj;simpa using hj
  have hm:L[j]∈L:=gS hjL;have e1:(abE dc)[j].2 = .sl L[j].l.length (L[j].l.flatten.map aB):=by simp only [habE,mZ]
  have e2:(L.map Ent.val).getD j undef=L[j].val:=by rw [kQ4,jA,kQ0 hjL];rfl
  rw [e1,e2];generalize L[j]=e at hm
  have he:=hok.ok e hm;obtain ⟨g1,g2⟩:=hhas e.blk (cZ.2 (.inr ⟨e,hm,rfl⟩));change W.heap[e.b]? = some (.cells e.arr 44 (0,0)) at g1
  have hfl:(e.l.flatten.map aB).length=e.l.length*6:=by rw [eR,pZ he.u]
  have hcell:∀ i,i<(e.l.flatten.map aB).length→∃ z,e.l.flatten[i]? = some z∧e.arr[i]? = some (.int .i64 z):=fun i hi=>by
   have hi':i<e.l.flatten.length:=by rw [eR] at hi;exact hi
   refine ⟨e.l.flatten[i],kQ0 hi',?_⟩;have h1:(e.arr.toList.take (e.l.length*6))[i]? = (e.l.flatten.map (Value.int .i64))[i]? := by rw [he.at_]
   rw [List.getElem?_take_of_lt (by omega),jA,kQ0 hi'] at h1
   simpa using h1
  refine .sl _ _ _ _ (fun i=>e.arr.getD i undef) he.le he.cap (fun i hi => ?_) (fun i hi => ?_) (fun i hi => ?_)
  ·obtain ⟨z,_,h2⟩:=hcell i hi
   refine ⟨e.b,0,rfl,g2,?_⟩;obtain ⟨h3,h4⟩:=mM.1 h2;rw [gN,bX g1 h3]
  ·obtain ⟨z,h1,h2⟩:=hcell i hi
   have:e.arr.getD i undef = .int .i64 z:=by rw [kQ2,h2];rfl
   rw [this,mZ];obtain ⟨h3,h4⟩:=kQ3.1 h1;rw [h4];exact .v _
  ·obtain ⟨z,h1,h2⟩:=hcell i hi
   have:e.arr.getD i undef = .int .i64 z:=by rw [kQ2,h2];rfl
   rw [this];rfl
end KV
end Go.Proofs
end
section
namespace Go.Proofs
open Go.RowKit
namespace KV
open Go.ChangeMaps (setBlock)
section
variable {dl:Int} {sk dc:Lqq} {v1 v2:Value} {mb:Nat} {C C':Cx} {w W:World}

theorem bCu{arr0:Array MapEntry}(hM:aR Tp C (mH dl sk dc) w)(hmb:C.ι 3=some mb)(hmh:w.heap[mb]? = some (.map #[] 0))
  {bd:Nat} {ad:Array Value} {td:TypeId} (i1:C.ι 1=some bd) (hd:w.heap[bd]? = some (.cells ad td (0,0))) (q1:ad.getD 1 undef=v1) (q2:ad.getD 2 undef=v2):aOe dl sk dc v1 v2 C w mb [] w C #[] 0 []:=by
 have hF0:∀ (i:Nat) (o:AO),(yI dl v1 v2 mb [])[i]? = some (some o)→o.live=true→∃ o',(mH dl sk dc)[i]? = some (some o')∧o'.live=true:=fun i o h hl=>by
  have hi:=tG h hl;exact eU i (by omega)
 refine ⟨⟨fun _=>Iff.rfl,⟨fun i ty n cs h => ?_,fun i ty cs h => ?_,fun i es cl h => ?_,fun i i' o o' b h1 l1 h2 l2 e1 e2 => ?_,fun i o b h hl hb => ?_,hM.Fs,fun i o b h hl hb => ?_⟩,
  ⟨rfl,rfl,rfl,dM _,fun _ _ _=>rfl,fun i o h=>⟨?_,rfl,rfl⟩,fun i o h ty n cs hx => ?_,fun i o h o' hx hl => ?_,fun i o b h hl hb => ?_,fun _ h=>h,fun _ h => .inl h⟩⟩,mI.nil mb,rfl,fun y h=>by simp at h,fun p hp => ?_⟩
 ·rcases at4 h with ⟨rfl,e⟩ | ⟨rfl,e⟩ | ⟨rfl,e⟩ | ⟨rfl,e⟩ <;> cases e
 ·rcases at4 h with ⟨rfl,e⟩ | ⟨rfl,e⟩ | ⟨rfl,e⟩ | ⟨rfl,e⟩
  ·cases e
   obtain ⟨b,arr,r0,r1,r2,r3,r4⟩:=hM.box 0 _ _ rfl;refine ⟨b,arr,r0,r1,r2,fun j hj => ?_,r4⟩
   have:=r3 j hj;have hj0:j=0:=by simp at hj;exact hj
   subst hj0;simp only [List.getElem_cons_zero] at this ⊢
   cases this with
   | ptr _ _ _ h0 ha h hp =>
    refine .ptr _ _ _ h0 ⟨_,rfl⟩ (fun o ho hl => ?_) hp
    exact h _ rfl rfl
  ·cases e
   obtain ⟨b,arr,r0,r1,r2,r3,r4⟩:=hM.box 1 _ _ rfl;rw [i1] at r0;cases r0
   rw [hd] at r1;cases r1
   refine ⟨bd,ad,i1,hd,r2,fun j hj => ?_,r4⟩
   match j,hj with
   | 0,_ =>
    have:=r3 0 (by simp)
    cases this with
    | p _ _ h=>exact .p _ _ h
   | 1,_=>exact .p _ _ (by rw [q1];exact .v _)
   | 2,_=>exact .p _ _ (by rw [q2];exact .v _)
   | 3,_ =>
    have:=r3 3 (by simp)
    simp only [List.getElem_cons_succ,List.getElem_cons_zero] at this ⊢
    cases this with
    | mp _ _ h0 ha h =>
     refine .mp _ _ h0 ⟨_,rfl⟩ fun o ho hl => ?_
     exact h _ rfl rfl
   | 4,_ =>
    have:=r3 4 (by simp)
    simp only [List.getElem_cons_succ,List.getElem_cons_zero] at this ⊢
    generalize ad.getD 4 undef=u at this
    cases this with
    | mp _ _ h0 ha h =>
     obtain ⟨b,h1,h2⟩:=h _ rfl rfl;rw [hmb] at h2;cases h2
     rw [h1];exact .p _ _ (.v _)
  ·cases e
  ·cases e
 ·rcases at4 h with ⟨rfl,e⟩ | ⟨rfl,e⟩ | ⟨rfl,e⟩ | ⟨rfl,e⟩
  ·cases e
  ·cases e
  ·cases e;exact hM.mp 2 _ _ rfl
  ·cases e
 ·obtain ⟨p,q1,q2⟩:=hF0 _ _ h1 l1
  obtain ⟨p',q1',q2'⟩:=hF0 _ _ h2 l2;exact hM.inj i i' p p' b q1 q2 q1' q2' e1 e2
 ·obtain ⟨p,q1,q2⟩:=hF0 _ _ h hl
  exact hM.nF i p b q1 q2 hb
 ·obtain ⟨p,q1,q2⟩:=hF0 _ _ h hl
  exact hM.lt i p b q1 q2 hb
 ·have hi:i<4:=(kQ3.1 h).1
  match i,hi with
  | 0,_=>exact ⟨_,rfl⟩
  | 1,_=>exact ⟨_,rfl⟩
  | 2,_=>exact ⟨_,rfl⟩
  | 3,_=>exact ⟨_,rfl⟩
 ·rcases at4 hx with ⟨rfl,e⟩ | ⟨rfl,e⟩ | ⟨rfl,e⟩ | ⟨rfl,e⟩ <;> cases e
 ·have hi:i<4:=(kQ3.1 h).1
  obtain ⟨p,q1,q2⟩:=eU (dl:=dl) (sk:=sk) (dc:=dc) i hi;rw [h] at q1;cases q1;exact q2
 ·obtain ⟨p,q1,q2⟩:=hF0 _ _ h hl
  exact .inr ⟨i,p,q1,q2,hb⟩
 ·have:p=(mb,.map #[] 0):=by simpa [iL] using hp
  subst this;exact ⟨hmh,fun h=>hM.nF 3 _ mb rfl rfl hmb h,.inl rfl⟩

theorem bCv{ea:Array MapEntry}{cl:Nat}{L:List Ent}(hM0:aR Tp C (mH dl sk dc) w)(hmb:C.ι 3=some mb)(r1:cN C.F w (.sl sk.length (sk.flatten.map aB)) v1)(r2:cN C.F w (.sl dc.length (dc.flatten.map aB)) v2)
  (hI:aOe dl sk dc v1 v2 C w mb dc.reverse W C' ea cl L) :
  ∃ C5,aR Tp C5 (zV dl sk dc) W∧Fr C (mH dl sk dc) w C5 (zV dl sk dc) W∧∀ D,W.heap[D]? = some (.deferred (some []))→w.heap.size≤D→¬ C5.F D:=by
 obtain ⟨⟨hFI,hM,fI⟩,hok,hls,hborn,hhas⟩:=hI;obtain ⟨F5,hF5⟩:∃ F5:Nat→Prop,F5=fun c=>C'.F c∨∃ p∈iL mb ea cl L,p.1=c:=⟨_,rfl⟩
 have toF:∀ c,C.F c→F5 c:=fun c hc=>by rw [hF5];exact .inl ((hFI c).2 hc)
 have toF':∀ c,C'.F c→F5 c:=fun c hc=>by rw [hF5];exact .inl hc
 have same:∀ c,C.F c→W.heap[c]? = w.heap[c]? := fun c hc=>fI.keep c (hM0.Fs c hc) fun i o h hl he=>hM0.nF i o c h hl he hc
 have ιC:∀ i,i<4→C'.ι i=C.ι i:=fun i hi=>by
  obtain ⟨o,h1,_⟩:=eU (dl:=dl) (sk:=sk) (dc:=dc) i hi;exact (fI.ids i o h1).2.1
 have live1:∀ {i:Nat} {o:AO},(zV dl sk dc)[i]? = some (some o)→o.live=true→(i=0∨i=1∨i=2)∧∃ o',(yI dl v1 v2 mb (atF dc.reverse))[i]? = some (some o')∧o'.live=true:=fun {i o} h hl=>by
  rcases at4 h with ⟨rfl,e⟩ | ⟨rfl,e⟩ | ⟨rfl,e⟩ | ⟨rfl,e⟩
  ·exact ⟨.inl rfl,_,rfl,rfl⟩
  ·exact ⟨.inr (.inl rfl),_,rfl,rfl⟩
  ·exact ⟨.inr (.inr rfl),_,rfl,rfl⟩
  ·cases e;cases hl
 have lt3:∀ i c,i<3→C.ι i=some c→c<w.heap.size∧c≠mb:=fun i c hi hc=>by
  obtain ⟨o,h1,h2⟩:=eU (dl:=dl) (sk:=sk) (dc:=dc) i (by omega)
  refine ⟨hM0.lt i o c h1 h2 hc,fun e => ?_⟩
  subst e;have:=hM0.inj i 3 o _ c h1 h2 rfl rfl hc hmb;omega
 refine ⟨⟨C'.ι,C'.κ,F5,[]⟩,⟨fun i ty n cs h => ?_,fun i ty cs h => ?_,fun i es cl h => ?_,fun i i' o o' b h1 l1 h2 l2 e1 e2 => ?_,fun i o b h hl hb hf => ?_,fun c hc => ?_,fun i o b h hl hb => ?_⟩,
  ⟨fI.os,fI.tape,fI.out,fI.size,fI.keep,fun i o h=>⟨?_,(fI.ids i o h).2⟩,fun i o h ty n cs hx => ?_,fun i o h o' hx hl => ?_,fun i o b h hl hb => ?_,toF,fun c hc => ?_⟩,fun D hD hDs hf => ?_⟩
 ·rcases at4 h with ⟨rfl,e⟩ | ⟨rfl,e⟩ | ⟨rfl,e⟩ | ⟨rfl,e⟩ <;> cases e
 ·rcases at4 h with ⟨rfl,e⟩ | ⟨rfl,e⟩ | ⟨rfl,e⟩ | ⟨rfl,e⟩
  ·cases e
   obtain ⟨b,arr,r0,r1,r2,r3,r4⟩:=hM.box 0 _ _ rfl;refine ⟨b,arr,r0,r1,r2,fun j hj => ?_,r4⟩
   have:=r3 j hj;have hj0:j=0:=by simp at hj;exact hj
   subst hj0;simp only [List.getElem_cons_zero] at this ⊢
   cases this with
   | ptr _ _ _ h0 ha h hp =>
    refine .ptr _ _ _ h0 ⟨_,rfl⟩ (fun o ho hl => ?_) hp
    exact h _ rfl rfl
  ·cases e
   obtain ⟨b,arr,s0,s1,s2,s3,s4⟩:=hM.box 1 _ _ rfl;have opq:∀ (j:Nat) (v:Value),Rep C' (yI dl v1 v2 mb (atF dc.reverse)) W (.p (.v v)) (arr.getD j undef)→arr.getD j undef=v:=fun j v h=>by
    generalize arr.getD j undef=u at h
    cases h with
    | p _ _ h=>cases h;rfl
   refine ⟨b,arr,s0,s1,s2,fun j hj => ?_,s4⟩
   match j,hj with
   | 0,_ =>
    have:=s3 0 (by simp)
    cases this with
    | p _ _ h=>exact .p _ _ (h.anyF rfl)
   | 1,_ =>
    show Rep _ _ W (.p (.sl sk.length (sk.flatten.map aB))) (arr.getD 1 undef);rw [opq 1 v1 (s3 1 (by simp))]
    exact .p _ _ (r1.mono toF same)
   | 2,_ =>
    show Rep _ _ W (.p (.sl dc.length (dc.flatten.map aB))) (arr.getD 2 undef);rw [opq 2 v2 (s3 2 (by simp))]
    exact .p _ _ (r2.mono toF same)
   | 3,_ =>
    have:=s3 3 (by simp)
    simp only [List.getElem_cons_succ,List.getElem_cons_zero] at this ⊢
    cases this with
    | mp _ _ h0 ha h =>
     refine .mp _ _ h0 ⟨_,rfl⟩ fun o ho hl => ?_
     exact h _ rfl rfl
   | 4,_ =>
    show Rep _ _ W (.p (.mp (abE dc))) (arr.getD 4 undef);rw [opq 4 (.map (some mb)) (s3 4 (by simp))]
    exact .p _ _ (aTo hok hls hborn fun p hp=>⟨(hhas p hp).1,by rw [hF5];exact .inr ⟨p,hp,rfl⟩⟩)
  ·cases e
  ·cases e
 ·rcases at4 h with ⟨rfl,e⟩ | ⟨rfl,e⟩ | ⟨rfl,e⟩ | ⟨rfl,e⟩
  ·cases e
  ·cases e
  ·cases e
   obtain ⟨b,arr,s0,s1,s2,s3⟩:=hM.mp 2 _ _ rfl;refine ⟨b,arr,s0,s1,s2,fun j hj => ?_⟩
   obtain ⟨en,t1,t2,t3,t4⟩:=s3 j hj;exact ⟨en,t1,t2,t3,t4.mono toF' (fun _ _=>rfl)⟩
  ·cases e
 ·obtain ⟨_,p,q1,q2⟩:=live1 h1 l1
  obtain ⟨_,p',q1',q2'⟩:=live1 h2 l2;exact hM.inj i i' p p' b q1 q2 q1' q2' e1 e2
 ·obtain ⟨hi,p,q1,q2⟩:=live1 h hl
  rw [hF5] at hf
  rcases hf with hf | ⟨p0,hp0,hpb⟩
  ·exact hM.nF i p b q1 q2 hb hf
  ·have hb':C.ι i=some b:=by rw [← ιC i (by omega)];exact hb
   obtain ⟨g1,g2⟩:=lt3 i b (by omega) hb'
   rcases (hhas p0 hp0).2.2 with h5 | h5 <;> omega
 ·rw [hF5] at hc
  rcases hc with hc | ⟨p0,hp0,rfl⟩
  ·exact hM.Fs c hc
  ·exact cA (hhas p0 hp0).1
 ·obtain ⟨_,p,q1,q2⟩:=live1 h hl
  exact hM.lt i p b q1 q2 hb
 ·have hi:i<4:=(kQ3.1 h).1
  match i,hi with
  | 0,_=>exact ⟨_,rfl⟩
  | 1,_=>exact ⟨_,rfl⟩
  | 2,_=>exact ⟨_,rfl⟩
  | 3,_=>exact ⟨_,rfl⟩
 ·rcases at4 hx with ⟨rfl,e⟩ | ⟨rfl,e⟩ | ⟨rfl,e⟩ | ⟨rfl,e⟩ <;> cases e
 ·have hi:i<4:=(kQ3.1 h).1
  obtain ⟨p,q1,q2⟩:=eU (dl:=dl) (sk:=sk) (dc:=dc) i hi;rw [h] at q1;cases q1;exact q2
 ·obtain ⟨_,p,q1,q2⟩:=live1 h hl
  exact fI.new i p b q1 q2 hb
 ·rw [hF5] at hc
  rcases hc with hc | ⟨p0,hp0,rfl⟩
  ·exact .inl ((hFI c).1 hc)
  ·rcases (hhas p0 hp0).2.2 with h5 | h5
   ·exact .inr (.inr ⟨3,_,rfl,rfl,by rw [h5];exact hmb⟩)
   ·exact .inr (.inl h5)
 ·rw [hF5] at hf
  rcases hf with hf | ⟨p0,hp0,rfl⟩
  ·have:=hM0.Fs D ((hFI D).1 hf);omega
  ·have h6:=(hhas p0 hp0).1
   rw [hD] at h6
   rcases cZ.1 hp0 with rfl | ⟨y,_,rfl⟩ <;> cases h6
end
theorem info44q:∃ i,Tryz.prog.info? 44=some i∧i.zero=some zD6∧i.size=6:=by
 obtain ⟨i,h1,h2,h3,_⟩:=info_parts info44z;exact ⟨i,h1,h2,h3⟩
theorem aOb(W:World):(Instr.alloc 44 true (.tuple #[])).run Tp W = .ok (.pointer (some ⟨W.heap.size,0,none⟩)) (W.alloc (.cells zD6.cells 44)):=rfl
set_option maxHeartbeats 1000000 in
theorem bKf(dl:Int)(sk dc:Lqq)(hd:bZ dc):aC Tp 0 (sub (cd Tryz.f82) [1,1,1,1,0,1,0]) ⟨fr 57 [(6,(.ptr 0 0)),(27,aOf dc)],mH dl sk dc⟩ .normal ⟨fr 57 [(6,(.ptr 0 0))],zV dl sk dc⟩:=by
 intro C0 M0 w0 a w hk hs ro hro n;have hro':ro=none:=hro.resolve_right (by rw [aWp];simp [nrf])
 subst hro';rw [aWp];refine aDt (n:=3) ?_;obtain ⟨C,hSl,hM,hF,hD⟩:=hs;obtain ⟨mb,arr0,hmb,hmh,hz,_⟩:=hM.mp 3 _ _ rfl;obtain rfl:arr0 = #[]:=Array.eq_empty_of_size_eq_zero (by simpa using hz)
 obtain ⟨bd,ad,i1,hdh,hs1,hr1,ho1⟩:=hM.box 1 _ _ rfl;have r1:cN C.F w (.sl sk.length (sk.flatten.map aB)) (ad.getD 1 undef):=by
  have:=hr1 1 (by simp)
  cases this with
  | p _ _ h=>exact h
 have r2:cN C.F w (.sl dc.length (dc.flatten.map aB)) (ad.getD 2 undef):=by
  have:=hr1 2 (by simp)
  cases this with
  | p _ _ h=>exact h
 have hmblt:mb<w.heap.size:=hM.lt 3 _ mb rfl rfl hmb;have hsz:a.tmps.size=57:=hSl.size;have h6:=hSl.at (i:=6) (x := .ptr 0 0) rfl
 obtain ⟨lb,Sp,hu,hseq⟩:=bCz dc hd.ud hd.len C (mH dl sk dc) w _ (hSl.at (i:=27) (x:=aOf dc) rfl) hM.Fs
 have actT:∀ (x:Bk dc) (b:Nat),((({ tmps:=(a.tmps.setIfInBounds 28 (.int .i64 (x.1:Nat))).setIfInBounds 29 (.agg (vals6 (nD dc x.1))),defers:=[] }:Act).put (some 8) (.pointer (some ⟨b,0,none⟩))).tmps.size=57) ∧
   (({ tmps:=(a.tmps.setIfInBounds 28 (.int .i64 (x.1:Nat))).setIfInBounds 29 (.agg (vals6 (nD dc x.1))),defers:=[] }:Act).put (some 8) (.pointer (some ⟨b,0,none⟩))).tmps.getD 6 undef=a.tmps.getD 6 undef ∧
   (({ tmps:=(a.tmps.setIfInBounds 28 (.int .i64 (x.1:Nat))).setIfInBounds 29 (.agg (vals6 (nD dc x.1))),defers:=[] }:Act).put (some 8) (.pointer (some ⟨b,0,none⟩))).tmps.getD 8 undef = .pointer (some ⟨b,0,none⟩):=fun x b=>by
  refine ⟨by simp [Act.put,hsz],?_,?_⟩
  ·simp [Act.put,kQ2]
  ·simp [Act.put,kQ2,hsz]
 refine wpIn_rangeFunc_ownH (F:=Fen none) (n:=3) rfl (by omega) (gf:=187) (lb:=lb) hu trivial (fun args w=>rfl) hseq (fun h k=>h.trans k)
  (fun W l o o' hl h1 h2 h3=>⟨by simp,fun b hb=>(grownBy_putObj' W l o').block b (kQ8 (hM.Fs b hb) (fT hl (Nat.le_of_lt (mM.1 h1).1))) (fun e=>by cases e;have:=hM.Fs _ hb;omega)⟩)
  (Below.refl _ _) (fun _=>rfl)
  (fun pre W=>∃ C' ea cl L,aOe dl sk dc (ad.getD 1 undef) (ad.getD 2 undef) C w mb (pre.map fun x=>nD dc x.1) W C' ea cl L) (fun _ _ _=>False)
  (fun pre X Y row hs hg hr=>by obtain ⟨C',ea,cl,L,h⟩:=hs;exact ⟨C',ea,cl,L,h.own hM hmb hg hr⟩) (fun _ _ _ _ _ hs _ _=>hs)
  ⟨C,#[],0,[],bCu (arr0 := #[]) hM hmb hmh i1 hdh rfl rfl⟩
  (fun x a' W=>∃ b,a'=(({ tmps:=(a.tmps.setIfInBounds 28 (.int .i64 (x.1:Nat))).setIfInBounds 29 (.agg (vals6 (nD dc x.1))),defers:=[] }:Act).put (some 8) (.pointer (some ⟨b,0,none⟩)))∧w.heap.size≤b∧W.heap[b]? = some (.cells (vsL (nD dc x.1)).toArray 44 (0,0))∧∀ es cl,W.heap[mb]? = some (.map es cl)→∀ y∈es.toList,y.val.ownBlock≠some b)
  (fun x a' _ X Y row hs hg hr => ?hAx) ?assign ?body ?done ?stop
 case hAx =>
  obtain ⟨b,h1,h2,h3,h4⟩:=hs;have hno:∀ c,c<X.heap.size→(c<w.heap.size∨mF X c)→Y.heap[c]? = X.heap[c]? := fun c hc hd=>hg.block c hc (fun e=>by
   obtain ⟨q1,o,q2,q3⟩:=hr c e.symm
   rcases hd with hd | hd
   ·omega
   ·exact jQ q2 q3 hd)
  refine ⟨b,h1,h2,(hno b (cA h3) (.inr (fN h3))).trans h3,fun es cl h => ?_⟩
  by_cases hlt:mb<X.heap.size
  ·rw [hno mb hlt (.inl hmblt)] at h
   exact h4 es cl h
  ·exact absurd (kQ8 (cA h3) (dM _)) (by omega)
 case assign =>
  intro l pre x W K hI hK;rw [zip2'];obtain ⟨C',ea,cl,L,hI⟩:=hI;have hx:=aTn hd _ (aEe x);have hev:vals6 (nD dc x.1)=(vsL (nD dc x.1)).toArray:=rfl;refine wpIn_region_lit (wpListIn_plain rfl fun K' hK' => ?_)
  unfold Oper.wpIn;refine ⟨fun f _=>trivial,?_⟩
  rw [Oper.semAt_plain _ _ _ (by intro c hc';cases hc')]
  have e1 : ∀ ρ : Operand → Value, (execOp ρ { dst := some 8, op := .alloc 44, type := 0, pos := "jury.go:198", after := #[], guard := none }).run Tp W = .ok (.value (.pointer (some ⟨W.heap.size, 0, none⟩))) (W.alloc (.cells zD6.cells 44)) := fun ρ => by
   unfold execOp;dsimp only;rw [Sem.run_bind,aOb,Result.andThen_ok,Sem.run_pure]
  rw [e1];refine hK' _ _ (wpListIn_plain rfl fun K2 hK2 => ?_)
  unfold Oper.wpIn;refine ⟨fun f _=>trivial,?_⟩
  rw [Oper.semAt_plain _ _ _ (by intro c hc';cases hc')]
  obtain ⟨i44,hi,hz0,hz1⟩:=info44q;have e8:(({ tmps:=(a.tmps.setIfInBounds 28 (.int .i64 (x.1:Nat))).setIfInBounds 29 (.agg (vals6 (nD dc x.1))),defers:=[] }:Act).put (some 8) (.pointer (some ⟨W.heap.size,0,none⟩))).eval (.tmp 8) = .pointer (some ⟨W.heap.size,0,none⟩):=(actT x W.heap.size).2.2;have e29:(({ tmps:=(a.tmps.setIfInBounds 28 (.int .i64 (x.1:Nat))).setIfInBounds 29 (.agg (vals6 (nD dc x.1))),defers:=[] }:Act).put (some 8) (.pointer (some ⟨W.heap.size,0,none⟩))).eval (.tmp 29) = .agg (vals6 (nD dc x.1)):=by
   simp [Act.eval,Act.put,kQ2,hsz]
  have e2:=run_storeAt_new (P:=Tp) W 44 zD6.cells (vals6 (nD dc x.1)) (by rw [hi];simp [hz1,hev,vsL,hx.len]) (by simp [hev,vsL,hx.len];rfl) (by
   rw [Array.all_eq_true];intro i h;simp [hev,vsL];rfl)
  have e3 : ∀ ρ : Operand → Value, ρ (.tmp 8) = .pointer (some ⟨W.heap.size, 0, none⟩) → ρ (.tmp 29) = .agg (vals6 (nD dc x.1)) → (execOp ρ { dst := none, op := .store 44 (.tmp 8) (.tmp 29), type := 0, pos := "jury.go:198", after := #[{ on := 0, ground := .data }, { on := 0, ground := .phase }], guard := none }).run Tp (W.alloc (.cells zD6.cells 44)) = .ok .skip (W.alloc (.cells (vals6 (nD dc x.1)) 44)) := fun ρ h1 h2 => by
   unfold execOp;dsimp only;rw [h1,h2,Sem.run_bind,e2,Result.andThen_ok,Sem.run_pure]
  rw [e3 _ e8 e29];refine hK2 _ _ (wpListIn_nil (hK _ _ ?_ ?_ ?_ ?_))
  ·exact ⟨by simp,fun k o _ hk _=>((jO W _).2.2 k (cA hk)).trans hk⟩
  ·exact ⟨by simp,fun b hb=>(jO W _).2.2 b (kQ8 (hM.Fs b hb) hI.inv.2.2.size)⟩
  ·exact ⟨C',ea,cl,L,hI.own hM hmb (World.grownBy_alloc W _ none) (fun r e=>by cases e)⟩
  ·refine ⟨W.heap.size,rfl,hI.inv.2.2.size,(jO W _).2.1,fun es2 cl2 h y hy hyb => ?_⟩
   have hm1:=(hI.has (mb,.map ea cl) (by simp [iL])).1
   rw [(jO W _).2.2 mb (cA hm1),hm1] at h
   cases h;obtain ⟨e,he,_,hv⟩:=hI.ok.e1 y hy;rw [hv] at hyb
   have hb2:e.b=W.heap.size:=by
    have:Ent.val e = .slice (some ⟨e.b,0,none⟩) e.l.length e.cap:=rfl;rw [this] at hyb
    exact Option.some.inj hyb
   have:=cA (hI.has e.blk (cZ.2 (.inr ⟨e,he,rfl⟩))).1;simp only [Ent.blk] at this
   omega
 case body =>
  rintro l pre x a' W hl _ ⟨C',ea,cl,L,hI⟩ ⟨b,rfl,hb1,hb2,hb3⟩ hlt;obtain ⟨t1,t2,t3⟩:=actT x b;refine wpIn_mono (bKi (l:=l) (n:=1) (aTn hd _ (aEe x)) (fun y hy=>by
   obtain ⟨z,_,rfl⟩:=kQ9.1 hy;exact aTn hd _ (aEe z)) (by rw [eR];have:=hd.len;omega) hM hmb hI t1 rfl (by rw [t2];exact h6) t3 hb1 hb2 hb3) ?_
  rintro e a2 W4 ⟨rfl,hK,hG,h⟩;exact ⟨hK,hG,by simpa [gJ] using h⟩
 case done =>
  intro D xs W hD' hSx hI hDm;obtain ⟨C',ea,cl,L,hI⟩:=hI;rw [bKg hSx] at hI
  obtain ⟨C5,hM5,f5,hF5⟩:=bCv hM hmb r1 r2 hI;have hnp:aQc (zV dl sk dc):=fun i o h=>by rcases at4 h with ⟨rfl,e⟩ | ⟨rfl,e⟩ | ⟨rfl,e⟩ | ⟨rfl,e⟩ <;> cases e <;> rfl
  refine ⟨rfl,C5,?_,hM5,hF.trans f5,?_⟩
  ·have s0:eI C5 (zV dl sk dc) W (List.replicate 57 .any) a.tmps:=⟨by simpa using hsz,fun j hj=>by rw [List.getElem_replicate];exact .any _⟩
   refine ⟨hsz.trans rfl,fun j hj => ?_⟩
   have hfr:fr 57 [(6,.ptr 0 0)]=(List.replicate 57 AV.any).set 6 (.ptr 0 0):=rfl;simp only [hfr] at hj ⊢
   rw [xU]
   split
   ·rename_i e;subst e;exact h6.mono (hM.le f5)
   ·exact s0.rep j (by simpa using hj)
  ·obtain ⟨⟨l,e1,e2,e3⟩,hR⟩:=hD.fr hM (fun i to ti sz L h=>by have:=hnp _ _ h;cases this) f5
   obtain ⟨⟨l',e1',_,e3'⟩,_⟩:=hD;have hll:l=l':=by
    have:=e1.symm.trans e1';exact (List.map_inj_right (fun x y h=>by simpa [mark] using h)).1 this
   refine ⟨⟨D::l,by rw [e1];rfl,List.nodup_cons.2 ⟨fun hin => ?_,e2⟩,fun D' hD2 => ?_⟩,hR⟩
   ·rw [hll] at hin
    have:=(mM.1 (e3' D hin).1).1;omega
   ·rcases jH.1 hD2 with rfl | hin
    ·exact ⟨hDm,fT hF.size hD',hF5 _ hDm hD'⟩
    ·exact e3 D' hin
 case stop =>
  intro D c pre W _ _ h _;exact h.elim
end KV
end Go.Proofs
end
namespace Go.Proofs
namespace KV
section

theorem cAz(dc:Lqq){base:Nat}:FV Tp 147 [.p (fS dc)] base (aOf dc) []:=cBb
theorem eA{dl:Int}{sk dc:Lqq}(h:bG dl sk dc):bZ (aA dc):=by
 have hm:∀ x,x∈aA dc↔x∈dc:=fun x=>(fG dc).mem_iff
 refine ⟨mT h.ud,by rw [cQ];have:=h.len2;omega,fun x hx=>h.hdc x ((hm x).1 hx),?_,fun x hx=>h.ord x ((hm x).1 hx)⟩
 have hn:(aP (aA dc) 0).Nodup:=((fG dc).map _).nodup_iff.2 h.nd;have hs:=qJ dc;unfold aP at hn
 rw [List.Nodup,List.pairwise_map] at hn
 exact (hs.and hn).imp fun ⟨h1,h2⟩=>by
  show _<_;unfold dN;omega
theorem bQf{dl:Int}{sk dc:Lqq}(h0:bG dl sk dc)(h1:bZ (aA dc)){base:Nat}:FV Tp 82 [(.p (.agg (cR dl sk dc)))] base (.tup [(.rp [(aB dl),(.sl ((aA sk).length) ((aA sk).flatten.map aB)),(.sl ((aA dc).length) ((aA dc).flatten.map aB)),(.mp (atF (aA dc).reverse)),(.mp (abE (aA dc)))] 0),(pI 0)]) []:=by
 have k1:=fk 1 (bXq dl sk dc h0) rfl;have k2:=fk 6 (cAz (aA dc)) rfl;exact FV.fi Tryz.func82 [k1.o,bF,k2.o,.k 1 ⟨(rng [(0,6),(7,20),(28,29)]),[5,4,2,3],[],[]⟩ .normal ⟨fr 57 [(6,(.ptr 0 0))],zV dl (aA sk) (aA dc)⟩,.g 1 ⟨[],[0],[2,1],[]⟩] (gt (aC Tp 0 (sub (cd Tryz.f82) [1,1,1,1,0,1,0]) ⟨fr 57 [(6,(.ptr 0 0)),(27,aOf (aA dc))],mH dl (aA sk) (aA dc)⟩ .normal ⟨fr 57 [(6,(.ptr 0 0))],zV dl (aA sk) (aA dc)⟩) (bKf dl (aA sk) (aA dc) h1) (gc k2 (gt (((0:Int) != (0:Int))=false) (by first | decide | simp) (gc k1 gn))))
abbrev aX(dl:Int)(sk dc:Lqq):List PV:=[aB dl,.sl sk.length (sk.flatten.map aB),.sl dc.length (dc.flatten.map aB),.mp (atF dc.reverse),.mp (abE dc)]
theorem jF(dl:Int)(sk dc:Lqq)(h:bG dl sk dc){base:Nat}:FV Tp 82 [.p (.agg (cR dl sk dc))] base (.tup [.rp (aX dl (aA sk) (aA dc)) 0,.p (aB 0)]) []:=bQf h (eA h)
end
section
section
variable {P:Program} {k:Nat} {b:Code} {β:Type}
theorem aH.ex{e:Ex}(S:Nat→β→St)(R:β→St)(Inv:Nat→β→Prop)(he:e ≠ .normal)(n:Nat)
  (hs:∀ (i:Nat) (acc:β),i<n→Inv i acc→∃ acc',Inv (i+1) acc'∧aC P k b (S i acc) .normal (S (i+1) acc'))
  (hx:∀ acc,Inv n acc→aC P k b (S n acc) e (R acc)) {acc:β} (h0:Inv 0 acc):∃ acc',Inv n acc'∧aH P k b (S 0 acc) e (R acc'):=by
 have key:∀ (d i:Nat) (acc:β),i+d=n→Inv i acc→∃ acc',Inv n acc'∧aH P k b (S i acc) e (R acc'):=by
  intro d
  induction d with
  | zero =>
   intro i acc hi h;obtain rfl:i=n:=by omega
   exact ⟨acc,h,.exit (hx acc h) he⟩
  | succ d ih =>
   intro i acc hi h;obtain ⟨acc1,h1,c1⟩:=hs i acc (by omega) h
   obtain ⟨acc2,h2,c2⟩:=ih (i+1) acc1 (by omega) h1
   exact ⟨acc2,h2,.step c1 c2⟩
 exact key n 0 acc (by omega) h0
theorem aH.exF{e1 e2:Ex}(S:Nat→β→St)(R1:Nat→β→St)(R2:β→St)(Inv:β→Prop)(h1:e1 ≠ .normal)(h2:e2 ≠ .normal)(p:Nat→Bool)(n:Nat)
  (hs:∀ (i:Nat) (acc:β),i<n→Inv acc→p i=false→∃ acc',Inv acc'∧aC P k b (S i acc) .normal (S (i+1) acc'))
  (hq:∀ (i:Nat) (acc:β),i<n→Inv acc→p i=true→∃ acc',Inv acc'∧aC P k b (S i acc) e1 (R1 i acc'))
  (hx:∀ acc,Inv acc→aC P k b (S n acc) e2 (R2 acc)) {acc:β} (h0:Inv acc) :
  (∃ i acc',i<n∧p i=true∧(∀ j,j<i→p j=false)∧Inv acc'∧aH P k b (S 0 acc) e1 (R1 i acc'))∨((∀ j,j<n→p j=false)∧∃ acc',Inv acc'∧aH P k b (S 0 acc) e2 (R2 acc')):=by
 have key:∀ (d i:Nat) (acc:β),i+d=n→Inv acc→(∀ j,j<i→p j=false)→(∃ i' acc',i'<n∧p i'=true∧(∀ j,j<i'→p j=false)∧Inv acc'∧aH P k b (S i acc) e1 (R1 i' acc'))∨((∀ j,j<n→p j=false)∧∃ acc',Inv acc'∧aH P k b (S i acc) e2 (R2 acc')):=by
  intro d
  induction d with
  | zero =>
   intro i acc hi h hj;obtain rfl:i=n:=by omega
   exact .inr ⟨hj,acc,h,.exit (hx acc h) h2⟩
  | succ d ih =>
   intro i acc hi h hj;cases hp:p i with
   | true =>
    obtain ⟨acc1,q1,c1⟩:=hq i acc (by omega) h hp
    exact .inl ⟨i,acc1,by omega,hp,hj,q1,.exit c1 h1⟩
   | false =>
    obtain ⟨acc1,q1,c1⟩:=hs i acc (by omega) h hp
    rcases ih (i+1) acc1 (by omega) q1 (fun j hj2=>by
     rcases Nat.lt_or_ge j i with h3 | h3
     ·exact hj j h3
     ·obtain rfl:j=i:=by omega
      exact hp) with ⟨i',acc',r1,r2,r3,r4,r5⟩ | ⟨r1,acc',r2,r3⟩
    ·exact .inl ⟨i',acc',r1,r2,r3,r4,.step c1 r5⟩
    ·exact .inr ⟨r1,acc',r2,.step c1 r3⟩
 exact key n 0 acc (by omega) h0 (fun j hj=>absurd hj (aRg _))
end
def aL(T:Lqb):List (Value × PV):=T.map fun p=>(.int .i64 p.1,blP p.2)
theorem bCm(T:Lqb)(n:Int)(b:Bool):aL (T++[(n,b)])=aL T++[(.int .i64 n,blP b)]:=by simp [aL]
structure cL (dl:Int) (oc:List Int) (dc:Lqq) (T:Lqb):Prop where
 nd:(T.map (·.1)).Nodup
 ok:∀ p∈T,∃ x∈dc,dN x=p.1∧dY dl oc dc x=p.2
section
variable {dl:Int} {oc:List Int} {dc:Lqq} {T:Lqb}
theorem cL.nil:cL dl oc dc []:=⟨by simp,fun p hp=>by cases hp⟩
theorem eX(h:bZ dc){x:List Int}(hx:x∈dc):1≤dN x∧dN x≤9999:=(kF.1 (h.rng x hx)).1
theorem aBc(h:bZ dc){x y:List Int}(hx:x∈dc)(hy:y∈dc)(e:dN x=dN y):x=y:=by
 obtain ⟨i,hi,rfl⟩:=List.mem_iff_getElem.1 hx;obtain ⟨j,hj,rfl⟩:=List.mem_iff_getElem.1 hy;have hu:=List.pairwise_iff_getElem.1 h.up
 rcases Nat.lt_trichotomy i j with q | q | q
 ·have:=hu i j hi hj q;omega
 ·subst q;rfl
 ·have:=hu j i hj hi q;omega
theorem cL.keys(h:cL dl oc dc T)(hd:bZ dc){n:Int}(hn:1≤n∧n≤9999):cK .i64 (aL T) (.int .i64 n):=by
 refine ⟨fun e he => ?_,oK (by omega),?_⟩
 ·obtain ⟨p,hp,rfl⟩:=kQ9.1 he
  obtain ⟨x,hx,e1,_⟩:=h.ok p hp;have:=eX hd hx;exact oK (by omega)
 ·have:(aL T).map (fun e=>iZ e.1)=T.map (·.1):=by
   unfold aL;rw [tS];rfl
  rw [this];exact h.nd
theorem aWf{n:Int}:dS (aL T) (.int .i64 n)=T.any fun p=>p.1 == n:=by
 unfold dS aL;rw [List.any_map]
 congr 1
theorem bJq{n:Int}:fU (aL T) (.int .i64 n)=(T.find? fun p=>p.1 == n).map fun p=>blP p.2:=by
 unfold fU aL
 induction T with
 | nil=>rfl
 | cons p T ih =>
  rw [gZ,List.find?_cons,List.find?_cons];have e:(decide (iZ ((Value.int IntKind.i64 p.1,blP p.2):Value × PV).1=iZ (Value.int IntKind.i64 n)))=(p.1 == n):=by
   show decide (p.1=n)=(p.1 == n);rw [Bool.eq_iff_iff];simp
  rw [e];cases p.1 == n with
  | true=>rfl
  | false=>exact ih
theorem cL.look(h:cL dl oc dc T)(hd:bZ dc){x:List Int}(hx:x∈dc)(hh:dS (aL T) (.int .i64 (dN x))=true):fU (aL T) (.int .i64 (dN x))=some (blP (dY dl oc dc x)):=by
 rw [aWf] at hh
 rw [bJq];cases hf:T.find? fun p=>p.1 == dN x with
 | none =>
  obtain ⟨p,h1,h2⟩:=List.any_eq_true.1 hh;exact absurd h2 (xT.1 hf p h1)
 | some p =>
  have h1:=tQ hf;have h2:p.1=dN x:=by simpa using aNj hf
  obtain ⟨y,hy,e1,e2⟩:=h.ok p h1;rw [aBc hd hy hx (e1.trans h2)] at e2
  rw [e2];rfl
theorem cL.again(h:cL dl oc dc T)(hd:bZ dc){x:List Int}(hx:x∈dc):pO (aL T) (.int .i64 (dN x)) (blP (dY dl oc dc x))=aL T:=by
 have:∀ T':Lqb,(∀ p∈T',∃ x∈dc,dN x=p.1∧dY dl oc dc x=p.2)→pO (aL T') (.int .i64 (dN x)) (blP (dY dl oc dc x))=aL T':=by
  intro T'
  induction T' with
  | nil=>intro _;rfl
  | cons p T' ih =>
   intro hp;show (if p.1=dN x then ((.int .i64 (dN x),blP (dY dl oc dc x))::aL T':List (Value × PV)) else (.int .i64 p.1,blP p.2)::pO (aL T') (.int .i64 (dN x)) (blP (dY dl oc dc x)))=(.int .i64 p.1,blP p.2)::aL T'
   by_cases e:p.1=dN x
   ·rw [if_pos e]
    obtain ⟨y,hy,e1,e2⟩:=hp p (gY ..);rw [aBc hd hy hx (e1.trans e)] at e2
    rw [e,e2]
   ·rw [if_neg e,ih fun q hq=>hp q (kQ6 _ hq)]
 exact this T h.ok
theorem cL.put(h:cL dl oc dc T){x:List Int}(hx:x∈dc)(hh:dS (aL T) (.int .i64 (dN x))=false):cL dl oc dc (T++[(dN x,dY dl oc dc x)]):=by
 rw [aWf] at hh
 refine ⟨?_,fun p hp => ?_⟩
 ·rw [gJ,List.nodup_append]
  refine ⟨h.nd,by simp,fun a ha b hb e => ?_⟩
  simp only [gZ,List.map_nil,List.mem_singleton] at hb
  obtain ⟨p,hp,rfl⟩:=kQ9.1 ha;have:=List.any_eq_false.1 hh p hp;rw [e,hb] at this
  simp at this
 ·rcases jB.1 hp with hp | hp
  ·exact h.ok p hp
  ·rw [List.mem_singleton.1 hp]
   exact ⟨x,hx,rfl,rfl⟩
end
end
section
variable {b6 is r0 b106 b108 is'0 is'1:Bool}{k c0 c1 c2 c3 c4 c5 x0 x1 x2 x3 x4 x5 z0 z1 z2 z3 z4 z5 c0'4 c0'5 c1'5 c1'6 c2'6 c2'7 c3'7 c3'8 c4'8 c4'9 c5'9 y100 y101 y102 y103 y104 y105 c5'10:Int}{T t T7 t' t'3 t'4 t'5 T107 T109:Lqb}{l y0 l'1 l'2 l'3:Lqq}{i n i' i'0 i'1 i'2 n'2 n'3 n'4 base:Nat}{ov:PV}
variable {dl:Int}{sk dc:Lqq}

noncomputable abbrev fP:Code:=sub (cd Tryz.f154) [1,1,1,0,1,0,0]
noncomputable abbrev gK:Code:=sub (cd Tryz.f153) [1,0,1,0,0]
abbrev pG(dl:Int)(sk dc:Lqq):AV := .rp (aX dl sk dc) 0
abbrev dF(dl:Int)(sk dc:Lqq)(ov:PV)(T:Lqb):Mem:=[some (.box 130 [(pG dl sk dc)]),some (.box 33 [(.p ov)]),some (.box 139 [(.fn 154 [] [(.ptr 4 0),(.ptr 5 0),(.ptr 0 0),(.ptr 2 0)]),(.fn 156 [] [(.ptr 6 0)]),(.fn 157 [] [(.ptr 2 0),(.ptr 1 0)]),(.fn 160 [] [(.ptr 2 0)]),(.fn 158 [] [(.ptr 6 0)])]),some (.mp (aL T) T.length),some (.box 207 [(.mp 3)]),some (.box 124 [(.fn 146 [(pG dl sk dc)] [])]),some (.box 209 [(.fn 153 [] [(.ptr 0 0),(.ptr 2 0)])])]
abbrev yD:AV:=(.agg [(.fn 154 [] [(.ptr 4 0),(.ptr 5 0),(.ptr 0 0),(.ptr 2 0)]),(.fn 156 [] [(.ptr 6 0)]),(.fn 157 [] [(.ptr 2 0),(.ptr 1 0)]),(.fn 160 [] [(.ptr 2 0)]),(.fn 158 [] [(.ptr 6 0)])])
abbrev vB0(dl:Int)(sk dc:Lqq):AO:=.box 130 [.rp (aX dl sk dc) 0]
abbrev vB2:AO:=.box 139 [(.fn 154 [] [(.ptr 4 0),(.ptr 5 0),(.ptr 0 0),(.ptr 2 0)]),(.fn 156 [] [(.ptr 6 0)]),(.fn 157 [] [(.ptr 2 0),(.ptr 1 0)]),(.fn 160 [] [(.ptr 2 0)]),(.fn 158 [] [(.ptr 6 0)])]
abbrev vB5(dl:Int)(sk dc:Lqq):AO:=.box 124 [.fn 146 [.rp (aX dl sk dc) 0] []]
abbrev vB6:AO:=.box 209 [(.fn 153 [] [(.ptr 0 0),(.ptr 2 0)])]
abbrev vU(dl:Int)(sk dc:Lqq)(ov:PV)(T:Lqb):Upd:=[(0,vB0 dl sk dc),(1,.box 33 [.p ov]),(2,vB2),(3,.mp (aL T) T.length),(4,.box 207 [.mp 3]),(5,vB5 dl sk dc),(6,vB6)]
abbrev sF(dl:Int)(sk dc:Lqq)(ov:PV)(x:List Int)(b:Bool)(T T2:Lqb):Prop:=FMM Tp 154 [.p (.agg (x.map aB)),.ptr 4 0,.ptr 5 0,.ptr 0 0,.ptr 2 0] (dF dl sk dc ov T) (pB b) (dF dl sk dc ov T2)
abbrev bVe(g:Nat)(dl:Int)(sk dc:Lqq)(ov:PV)(x z:List Int)(b:Bool)(T T2:Lqb):Prop:=FMM Tp 153 [.p (.agg (x.map aB)),.fn g [] [],.ptr 0 0,.ptr 2 0] (dF dl sk dc ov T) (.tup [.p (.agg (z.map aB)),.p (blP b)]) (dF dl sk dc ov T2)
abbrev aNv(dl:Int)(sk dc:Lqq)(ov:PV)(x z:List Int)(b:Bool)(T T2:Lqb):Prop:=FMM Tp 156 [.p (.agg (x.map aB)),.ptr 6 0] (dF dl sk dc ov T) (.tup [.p (.agg (z.map aB)),.p (blP b)]) (dF dl sk dc ov T2)
abbrev bVf(dl:Int)(sk dc:Lqq)(ov:PV)(x z:List Int)(b:Bool)(T T2:Lqb):Prop:=FMM Tp 158 [.p (.agg (x.map aB)),.ptr 6 0] (dF dl sk dc ov T) (.tup [.p (.agg (z.map aB)),.p (blP b)]) (dF dl sk dc ov T2)
abbrev bOp(dl:Int)(sk dc:Lqq)(ov:PV)(x:List Int)(b:Bool)(T T2:Lqb):Prop:=FMM Tp 157 [.p (.agg (x.map aB)),.ptr 2 0,.ptr 1 0] (dF dl sk dc ov T) (pB b) (dF dl sk dc ov T2)
abbrev aAq(dl:Int)(sk dc:Lqq)(ov:PV)(x:List Int)(m:Int)(T T2:Lqb):Prop:=FMM Tp 160 [.p (.agg (x.map aB)),.ptr 2 0] (dF dl sk dc ov T) (pI m) (dF dl sk dc ov T2)
theorem bOq(h0:k=8):FV Tp 155 [(pI k)] base (pB true) []:=by
 exact FV.fi Tryz.func155 [bT,bT,bT] (g3c (dX h0) gn)
theorem bOr(h0:k≠8)(er0:r0=(k == (9:Int))):FV Tp 155 [(pI k)] base (pB r0) []:=by
 subst er0;exact FV.fi Tryz.func155 [bF,bF,bF] (g3c (bJ h0) gn)
theorem bOs(er0:r0=(k == (6:Int))):FV Tp 159 [(pI k)] base (pB r0) []:=by
 subst er0;exact FV.fi Tryz.func159 [] gn
theorem bVg(h0:k=4):FV Tp 148 [(pI k)] base (pB true) []:=by
 exact FV.fi Tryz.func148 [bT,bT,bT] (g3c (dX h0) gn)
theorem bVh(h0:k≠4)(er0:r0=(k == (7:Int))):FV Tp 148 [(pI k)] base (pB r0) []:=by
 subst er0;exact FV.fi Tryz.func148 [bF,bF,bF] (g3c (bJ h0) gn)
theorem nV(k:Int){base:Nat}:FV Tp 155 [.p (aB k)] base (pB (cY k)) []:=by
 by_cases h:k=8
 ·rw [show cY k=true by simp [cY,h]];exact bOq h
 ·exact bOr h (by simp [cY,h])
theorem aKa(k:Int){base:Nat}:FV Tp 159 [.p (aB k)] base (pB (k == 6)) []:=bOs rfl
theorem yE(k:Int){base:Nat}:FV Tp 148 [.p (aB k)] base (pB (jR k)) []:=by
 by_cases h:k=4
 ·rw [show jR k=true by simp [jR,h]];exact bVg h
 ·exact bVh h (by simp [jR,h])
theorem bVi(h0:(jR x1)=true)(er0:r0=(decide (x2 > dl))):FV Tp 146 [(.rp (aX dl sk dc) 0),(.p (dcE x0 x1 x2 x3 x4 x5))] base (pB r0) []:=by
 subst er0;exact FV.fi Tryz.func146 [.c (pB (jR x1)) [],bT,bT,bT,bT,bT,bT,bT,.x (aB dl),bT,bT] (g2c h0 (gr (aB dl) (g7c h0 (gc (fk 1 (yE x1) rfl) gn))))
theorem bVj(h0:(jR x1)=false):FV Tp 146 [(.rp (aX dl sk dc) 0),(.p (dcE x0 x1 x2 x3 x4 x5))] base (pB false) []:=by
 exact FV.fi Tryz.func146 [.c (pB (jR x1)) [],bF,bF,bF,bF,bF,bF,bF,bF,bF] (g8c h0 (gc h0 (gc (fk 1 (yE x1) rfl) gn)))
theorem aKb(dl:Int)(sk dc:Lqq)(x0 x1 x2 x3 x4 x5:Int){base:Nat}:FV Tp 146 [pG dl sk dc,.p (.agg [aB x0,aB x1,aB x2,aB x3,aB x4,aB x5])] base (pB (uI dl [x0,x1,x2,x3,x4,x5])) []:=by
 cases h:jR x1 with
 | true=>exact bVi h (by show (jR x1 && decide (dl<x2))=_;rw [h];rfl)
 | false=>rw [show uI dl [x0,x1,x2,x3,x4,x5]=false by show (jR x1 && decide (dl<x2))=_;rw [h];rfl];exact bVj h
abbrev tV(ov:PV)(n:Int)(b:Bool):Prop:=∀ base:Nat,FV Tp 52 [.p ov,.p (aB n)] base (pB b) []
def dG(dl:Int)(sk:Lqq)(dc:Lqq)(ov:PV)(i:Nat)(l:Lqq)(n:Nat)(te:List (Value × PV))(tk:Nat)(c0:Int)(c1:Int)(c2:Int)(c3:Int)(c4:Int)(c5:Int):St:=⟨fr 35 [(1,(.fn 155 [] [])),(3,(.ptr 2 0)),(6,(.ptr 7 0)),(16,(.p (fS l))),(17,(pI (n:Int))),(18,(pI (i:Int)))],[some (vB0 dl sk dc),some (.box 33 [(.p ov)]),some vB2,some (.mp te tk),some (.box 207 [(.mp 3)]),some (vB5 dl sk dc),some vB6,some (.box 44 [(pI c0),(pI c1),(pI c2),(pI c3),(pI c4),(pI c5)])]⟩
theorem bOt(h0:cK .i64 (abE dc) (.int .i64 x0))(h1:(dS (abE dc) (.int .i64 x0))=true)(h2:fU (abE dc) (.int .i64 x0)=some (fS y0))(hl3:aH Tp 7 gK (dG dl sk dc ov 0 y0 y0.length (aL T) T.length (0:Int) (0:Int) (0:Int) (0:Int) (0:Int) (0:Int)) (.exit 0) (dG dl sk dc ov i'1 l'2 n'3 (aL t'4) t'4.length c0'5 c1'6 c2'7 c3'8 c4'9 c5'10)):FMM Tp 153 [(.p (dcE x0 x1 x2 x3 x4 x5)),(.fn 155 [] []),(.ptr 0 0),(.ptr 2 0)] (dF dl sk dc ov T) (.tup [(.p (dcE 0 0 0 0 0 0)),(pB false)]) (dF dl sk dc ov t'4):=by
 exact FMM.fi 7 ⟨[],[],[],[]⟩ Tryz.func153 [.x (.mp (abE dc)),bT,.x (fS y0),hl3.k 1 ⟨(rng [(0,1),(2,1),(4,2),(7,9),(19,15)]),[8],[],[]⟩] (gc hl3.code (gc h2 (gc h1 (gc h0 (gr (.mp (abE dc)) gn)))))
theorem bOu(h0:cK .i64 (abE dc) (.int .i64 x0))(h1:(dS (abE dc) (.int .i64 x0))=true)(h2:fU (abE dc) (.int .i64 x0)=some (fS y0))(hl3:aH Tp 7 gK (dG dl sk dc ov 0 y0 y0.length (aL T) T.length (0:Int) (0:Int) (0:Int) (0:Int) (0:Int) (0:Int)) .ret (dI (dG dl sk dc ov i'1 l'2 n'3 (aL t'4) t'4.length c0'5 c1'6 c2'7 c3'8 c4'9 c5'10) [(7,(.kb true))])):FMM Tp 153 [(.p (dcE x0 x1 x2 x3 x4 x5)),(.fn 155 [] []),(.ptr 0 0),(.ptr 2 0)] (dF dl sk dc ov T) (.tup [(.p (dcE c0'5 c1'6 c2'7 c3'8 c4'9 c5'10)),(pB true)]) (dF dl sk dc ov t'4):=by
 exact FMM.fi 7 ⟨[],[],[],[]⟩ Tryz.func153 [.x (.mp (abE dc)),bT,.x (fS y0),hl3.k 1 ⟨(rng [(0,1),(2,1),(4,2),(7,9),(19,15)]),[8],[],[]⟩] (gc hl3.code (gc h2 (gc h1 (gc h0 (gr (.mp (abE dc)) gn)))))
theorem bOv(h0:cK .i64 (abE dc) (.int .i64 x0))(h1:(dS (abE dc) (.int .i64 x0))=false)(hl2:aH Tp 7 gK (dG dl sk dc ov 0 ([]:Lqq) 0 (aL T) T.length (0:Int) (0:Int) (0:Int) (0:Int) (0:Int) (0:Int)) (.exit 0) (dG dl sk dc ov i'0 l'1 n'2 (aL t'3) t'3.length c0'4 c1'5 c2'6 c3'7 c4'8 c5'9)):FMM Tp 153 [(.p (dcE x0 x1 x2 x3 x4 x5)),(.fn 155 [] []),(.ptr 0 0),(.ptr 2 0)] (dF dl sk dc ov T) (.tup [(.p (dcE 0 0 0 0 0 0)),(pB false)]) (dF dl sk dc ov t'3):=by
 exact FMM.fi 7 ⟨[],[],[],[]⟩ Tryz.func153 [.x (.mp (abE dc)),bF,hl2.k 1 ⟨(rng [(0,1),(2,1),(4,2),(7,9),(19,15)]),[8],[],[(16,99999)]⟩] (gc hl2.code (gc h1 (gc h0 (gr (.mp (abE dc)) gn))))
theorem aSk(h0:(i:Int)<(n:Int))(h1:l[i]? = some [y100,y101,y102,y103,y104,y105])(h2:uni 6 l)(h3:(cY y101)=true)(h4:sF dl sk dc ov [y100,y101,y102,y103,y104,y105] b106 t T107)(h5:b106=true)(et'e:aL t'=(aL T107))(et'k:t'.length=T107.length):aC Tp 7 gK (dG dl sk dc ov i l n (aL t) t.length c0 c1 c2 c3 c4 c5) .ret (dI (dG dl sk dc ov i l n (aL t') t'.length y100 y101 y102 y103 y104 y105) [(7,(.kb true))]):=by
 have k1:=fk 9 (nV y101) rfl;have k2:=mq [0,1,2,3,4,5,6] 9 h4;have raw:aC Tp 7 gK (dG dl sk dc ov i l n (aL t) t.length c0 c1 c2 c3 c4 c5) .ret (dI (dG dl sk dc ov i l n (aL T107) T107.length y100 y101 y102 y103 y104 y105) [(7,(.kb true))]):=aC.fi ⟨(rng [(0,1),(2,1),(4,2),(8,8),(19,15)]),[7],[],[]⟩ [bT,.x (dcE y100 y101 y102 y103 y104 y105),k1.o,bT,bT,bT,bT,k2.o,bT,bT] (gc h5 (gc h3 (gc k2 (g4c h3 (gc k1 (gc (aT (i:=i) h2 h1) (gc (bH (i:=i) h2 h1) (gc (bR (k:=6) (i:=(i:Int)) (by decide) h2 (kQ1 _) h1) (gc (aV h0) gn)))))))))
 exact raw.cast (by rw [et'e,et'k])
theorem aSl(h0:(i:Int)<(n:Int))(h1:l[i]? = some [y100,y101,y102,y103,y104,y105])(h2:uni 6 l)(h3:(cY y101)=true)(h4:sF dl sk dc ov [y100,y101,y102,y103,y104,y105] b106 t T107)(h5:b106=false)(h6:inR (((i+1):Nat):Int))(ei':i'=(i+1))(et'e:aL t'=(aL T107))(et'k:t'.length=T107.length):aC Tp 7 gK (dG dl sk dc ov i l n (aL t) t.length c0 c1 c2 c3 c4 c5) .normal (dG dl sk dc ov i' l n (aL t') t'.length c0 c1 c2 c3 c4 c5):=by
 subst ei';have k1:=fk 9 (nV y101) rfl;have k2:=mq [0,1,2,3,4,5,6] 9 h4;have raw:aC Tp 7 gK (dG dl sk dc ov i l n (aL t) t.length c0 c1 c2 c3 c4 c5) .normal (dG dl sk dc ov (i+1) l n (aL T107) T107.length c0 c1 c2 c3 c4 c5):=aC.fi ⟨(rng [(0,1),(2,1),(4,2),(7,9),(19,15)]),[7],[],[]⟩ [bT,.x (dcE y100 y101 y102 y103 y104 y105),k1.o,bT,bT,bT,bT,k2.o,bT,bF] (gc h6 (gc h5 (gc h3 (gc k2 (g4c h3 (gc k1 (gc (aT (i:=i) h2 h1) (gc (bH (i:=i) h2 h1) (gc (bR (k:=6) (i:=(i:Int)) (by decide) h2 (kQ1 _) h1) (gc (aV h0) gn))))))))))
 exact raw.cast (by rw [et'e,et'k])
theorem aSm(h0:(i:Int)<(n:Int))(h1:l[i]? = some [y100,y101,y102,y103,y104,y105])(h2:uni 6 l)(h3:(cY y101)=false)(h4:inR (((i+1):Nat):Int))(ei':i'=(i+1)):aC Tp 7 gK (dG dl sk dc ov i l n (aL t) t.length c0 c1 c2 c3 c4 c5) .normal (dG dl sk dc ov i' l n (aL t) t.length c0 c1 c2 c3 c4 c5):=by
 subst ei';have k1:=fk 9 (nV y101) rfl;exact aC.fi ⟨(rng [(0,1),(2,1),(4,2),(7,9),(19,15)]),[7],[],[]⟩ [bT,.x (dcE y100 y101 y102 y103 y104 y105),k1.o,bF,bF,bF,bF,bF] (gc h4 (g5c h3 (gc k1 (gc (aT (i:=i) h2 h1) (gc (bH (i:=i) h2 h1) (gc (bR (k:=6) (i:=(i:Int)) (by decide) h2 (kQ1 _) h1) (gc (aV h0) gn)))))))
theorem aSn(h0:(n:Int)≤(i:Int)):aC Tp 7 gK (dG dl sk dc ov i l n (aL t) t.length c0 c1 c2 c3 c4 c5) (.exit 0) (dG dl sk dc ov i l n (aL t) t.length c0 c1 c2 c3 c4 c5):=by
 exact aC.fi ⟨(rng [(0,1),(2,1),(4,2),(7,9),(19,15)]),[7],[],[]⟩ [bF] (gc (bA h0) gn)
def dH(dl:Int)(sk:Lqq)(dc:Lqq)(ov:PV)(i:Nat)(l:Lqq)(n:Nat)(te:List (Value × PV))(tk:Nat)(c0:Int)(c1:Int)(c2:Int)(c3:Int)(c4:Int)(c5:Int):St:=⟨fr 35 [(1,(.fn 159 [] [])),(3,(.ptr 2 0)),(6,(.ptr 7 0)),(16,(.p (fS l))),(17,(pI (n:Int))),(18,(pI (i:Int)))],[some (vB0 dl sk dc),some (.box 33 [(.p ov)]),some vB2,some (.mp te tk),some (.box 207 [(.mp 3)]),some (vB5 dl sk dc),some vB6,some (.box 44 [(pI c0),(pI c1),(pI c2),(pI c3),(pI c4),(pI c5)])]⟩
theorem bOw(h0:cK .i64 (abE dc) (.int .i64 x0))(h1:(dS (abE dc) (.int .i64 x0))=true)(h2:fU (abE dc) (.int .i64 x0)=some (fS y0))(hl3:aH Tp 7 gK (dH dl sk dc ov 0 y0 y0.length (aL T) T.length (0:Int) (0:Int) (0:Int) (0:Int) (0:Int) (0:Int)) (.exit 0) (dH dl sk dc ov i'1 l'2 n'3 (aL t'4) t'4.length c0'5 c1'6 c2'7 c3'8 c4'9 c5'10)):FMM Tp 153 [(.p (dcE x0 x1 x2 x3 x4 x5)),(.fn 159 [] []),(.ptr 0 0),(.ptr 2 0)] (dF dl sk dc ov T) (.tup [(.p (dcE 0 0 0 0 0 0)),(pB false)]) (dF dl sk dc ov t'4):=by
 exact FMM.fi 7 ⟨[],[],[],[]⟩ Tryz.func153 [.x (.mp (abE dc)),bT,.x (fS y0),hl3.k 1 ⟨(rng [(0,1),(2,1),(4,2),(7,9),(19,15)]),[8],[],[]⟩] (gc hl3.code (gc h2 (gc h1 (gc h0 (gr (.mp (abE dc)) gn)))))
theorem bOx(h0:cK .i64 (abE dc) (.int .i64 x0))(h1:(dS (abE dc) (.int .i64 x0))=true)(h2:fU (abE dc) (.int .i64 x0)=some (fS y0))(hl3:aH Tp 7 gK (dH dl sk dc ov 0 y0 y0.length (aL T) T.length (0:Int) (0:Int) (0:Int) (0:Int) (0:Int) (0:Int)) .ret (dI (dH dl sk dc ov i'1 l'2 n'3 (aL t'4) t'4.length c0'5 c1'6 c2'7 c3'8 c4'9 c5'10) [(7,(.kb true))])):FMM Tp 153 [(.p (dcE x0 x1 x2 x3 x4 x5)),(.fn 159 [] []),(.ptr 0 0),(.ptr 2 0)] (dF dl sk dc ov T) (.tup [(.p (dcE c0'5 c1'6 c2'7 c3'8 c4'9 c5'10)),(pB true)]) (dF dl sk dc ov t'4):=by
 exact FMM.fi 7 ⟨[],[],[],[]⟩ Tryz.func153 [.x (.mp (abE dc)),bT,.x (fS y0),hl3.k 1 ⟨(rng [(0,1),(2,1),(4,2),(7,9),(19,15)]),[8],[],[]⟩] (gc hl3.code (gc h2 (gc h1 (gc h0 (gr (.mp (abE dc)) gn)))))
theorem bOy(h0:cK .i64 (abE dc) (.int .i64 x0))(h1:(dS (abE dc) (.int .i64 x0))=false)(hl2:aH Tp 7 gK (dH dl sk dc ov 0 ([]:Lqq) 0 (aL T) T.length (0:Int) (0:Int) (0:Int) (0:Int) (0:Int) (0:Int)) (.exit 0) (dH dl sk dc ov i'0 l'1 n'2 (aL t'3) t'3.length c0'4 c1'5 c2'6 c3'7 c4'8 c5'9)):FMM Tp 153 [(.p (dcE x0 x1 x2 x3 x4 x5)),(.fn 159 [] []),(.ptr 0 0),(.ptr 2 0)] (dF dl sk dc ov T) (.tup [(.p (dcE 0 0 0 0 0 0)),(pB false)]) (dF dl sk dc ov t'3):=by
 exact FMM.fi 7 ⟨[],[],[],[]⟩ Tryz.func153 [.x (.mp (abE dc)),bF,hl2.k 1 ⟨(rng [(0,1),(2,1),(4,2),(7,9),(19,15)]),[8],[],[(16,99999)]⟩] (gc hl2.code (gc h1 (gc h0 (gr (.mp (abE dc)) gn))))
theorem aSo(h0:(i:Int)<(n:Int))(h1:l[i]? = some [y100,y101,y102,y103,y104,y105])(h2:uni 6 l)(h3:(y101 == 6)=true)(h4:sF dl sk dc ov [y100,y101,y102,y103,y104,y105] b106 t T107)(h5:b106=true)(et'e:aL t'=(aL T107))(et'k:t'.length=T107.length):aC Tp 7 gK (dH dl sk dc ov i l n (aL t) t.length c0 c1 c2 c3 c4 c5) .ret (dI (dH dl sk dc ov i l n (aL t') t'.length y100 y101 y102 y103 y104 y105) [(7,(.kb true))]):=by
 have k1:=mq [0,1,2,3,4,5,6] 9 h4;have raw:aC Tp 7 gK (dH dl sk dc ov i l n (aL t) t.length c0 c1 c2 c3 c4 c5) .ret (dI (dH dl sk dc ov i l n (aL T107) T107.length y100 y101 y102 y103 y104 y105) [(7,(.kb true))]):=aC.fi ⟨(rng [(0,1),(2,1),(4,2),(8,8),(19,15)]),[7],[],[]⟩ [bT,.x (dcE y100 y101 y102 y103 y104 y105),.c (pB (y101 == 6)) [],bT,bT,bT,bT,k1.o,bT,bT] (gc h5 (gc h3 (gc k1 (g4c h3 (gc (fk 9 (aKa y101) rfl) (gc (aT (i:=i) h2 h1) (gc (bH (i:=i) h2 h1) (gc (bR (k:=6) (i:=(i:Int)) (by decide) h2 (kQ1 _) h1) (gc (aV h0) gn)))))))))
 exact raw.cast (by rw [et'e,et'k])
theorem aSp(h0:(i:Int)<(n:Int))(h1:l[i]? = some [y100,y101,y102,y103,y104,y105])(h2:uni 6 l)(h3:(y101 == 6)=true)(h4:sF dl sk dc ov [y100,y101,y102,y103,y104,y105] b106 t T107)(h5:b106=false)(h6:inR (((i+1):Nat):Int))(ei':i'=(i+1))(et'e:aL t'=(aL T107))(et'k:t'.length=T107.length):aC Tp 7 gK (dH dl sk dc ov i l n (aL t) t.length c0 c1 c2 c3 c4 c5) .normal (dH dl sk dc ov i' l n (aL t') t'.length c0 c1 c2 c3 c4 c5):=by
 subst ei';have k1:=mq [0,1,2,3,4,5,6] 9 h4;have raw:aC Tp 7 gK (dH dl sk dc ov i l n (aL t) t.length c0 c1 c2 c3 c4 c5) .normal (dH dl sk dc ov (i+1) l n (aL T107) T107.length c0 c1 c2 c3 c4 c5):=aC.fi ⟨(rng [(0,1),(2,1),(4,2),(7,9),(19,15)]),[7],[],[]⟩ [bT,.x (dcE y100 y101 y102 y103 y104 y105),.c (pB (y101 == 6)) [],bT,bT,bT,bT,k1.o,bT,bF] (gc h6 (gc h5 (gc h3 (gc k1 (g4c h3 (gc (fk 9 (aKa y101) rfl) (gc (aT (i:=i) h2 h1) (gc (bH (i:=i) h2 h1) (gc (bR (k:=6) (i:=(i:Int)) (by decide) h2 (kQ1 _) h1) (gc (aV h0) gn))))))))))
 exact raw.cast (by rw [et'e,et'k])
theorem aSq(h0:(i:Int)<(n:Int))(h1:l[i]? = some [y100,y101,y102,y103,y104,y105])(h2:uni 6 l)(h3:(y101 == 6)=false)(h4:inR (((i+1):Nat):Int))(ei':i'=(i+1)):aC Tp 7 gK (dH dl sk dc ov i l n (aL t) t.length c0 c1 c2 c3 c4 c5) .normal (dH dl sk dc ov i' l n (aL t) t.length c0 c1 c2 c3 c4 c5):=by
 subst ei';exact aC.fi ⟨(rng [(0,1),(2,1),(4,2),(7,9),(19,15)]),[7],[],[]⟩ [bT,.x (dcE y100 y101 y102 y103 y104 y105),.c (pB (y101 == 6)) [],bF,bF,bF,bF,bF] (gc h4 (g5c h3 (gc (fk 9 (aKa y101) rfl) (gc (aT (i:=i) h2 h1) (gc (bH (i:=i) h2 h1) (gc (bR (k:=6) (i:=(i:Int)) (by decide) h2 (kQ1 _) h1) (gc (aV h0) gn)))))))
theorem aSr(h0:(n:Int)≤(i:Int)):aC Tp 7 gK (dH dl sk dc ov i l n (aL t) t.length c0 c1 c2 c3 c4 c5) (.exit 0) (dH dl sk dc ov i l n (aL t) t.length c0 c1 c2 c3 c4 c5):=by
 exact aC.fi ⟨(rng [(0,1),(2,1),(4,2),(7,9),(19,15)]),[7],[],[]⟩ [bF] (gc (bA h0) gn)
def cC(dl:Int)(sk:Lqq)(dc:Lqq)(ov:PV)(x0:Int)(x1:Int)(x2:Int)(x3:Int)(x4:Int)(x5:Int)(is:Bool)(i:Nat)(l:Lqq)(n:Nat)(te:List (Value × PV))(tk:Nat):St:=⟨fr 79 [(1,(.ptr 4 0)),(4,(.ptr 2 0)),(5,(.ptr 7 0)),(6,(.kb false)),(9,(pB is)),(32,(.p (fS l))),(33,(pI (n:Int))),(34,(pI (i:Int)))],[some (vB0 dl sk dc),some (.box 33 [(.p ov)]),some vB2,some (.mp te tk),some (.box 207 [(.mp 3)]),some (vB5 dl sk dc),some vB6,some (.box 44 [(pI x0),(pI x1),(pI x2),(pI x3),(pI x4),(pI x5)])]⟩
theorem bVk{y0:Bool}(h0:cK .i64 (aL T) (.int .i64 x0))(h1:(dS (aL T) (.int .i64 x0))=true)(h2:fU (aL T) (.int .i64 x0)=some (blP y0)):FMM Tp 154 [(.p (dcE x0 x1 x2 x3 x4 x5)),(.ptr 4 0),(.ptr 5 0),(.ptr 0 0),(.ptr 2 0)] (dF dl sk dc ov T) (pB y0) (dF dl sk dc ov T):=by
 exact FMM.fi 7 ⟨[],[],[],[]⟩ Tryz.func154 [bT,.x (blP y0)] (gc h2 (gc h1 (gc h0 gn)))
theorem bVl(h0:cK .i64 (aL T) (.int .i64 x0))(h1:(dS (aL T) (.int .i64 x0))=false)(h2:cK .i64 (abE dc) (.int .i64 x0))(h3:(dS (abE dc) (.int .i64 x0))=true)(h4:fU (abE dc) (.int .i64 x0)=some (fS y0))(hl5:aH Tp 7 fP (cC dl sk dc ov x0 x1 x2 x3 x4 x5 (!(uI dl [x0,x1,x2,x3,x4,x5])) 0 y0 y0.length (aL T) T.length) (.exit 0) (cC dl sk dc ov x0 x1 x2 x3 x4 x5 is'1 i'2 l'3 n'4 (aL t'5) t'5.length))(h6:cK .i64 (aL t'5) (.int .i64 x0))(h7:(dS (aL t'5) (.int .i64 x0))=true):FMM Tp 154 [(.p (dcE x0 x1 x2 x3 x4 x5)),(.ptr 4 0),(.ptr 5 0),(.ptr 0 0),(.ptr 2 0)] (dF dl sk dc ov T) (pB is'1) [some (vB0 dl sk dc),some (.box 33 [(.p ov)]),some vB2,some (.mp (pO (aL t'5) (.int .i64 x0) (blP is'1)) t'5.length),some (.box 207 [(.mp 3)]),some (vB5 dl sk dc),some vB6]:=by
 have k1:=fk 8 (aKb dl sk dc x0 x1 x2 x3 x4 x5) rfl;exact FMM.fi 7 ⟨[],[],[],[]⟩ Tryz.func154 [bF,k1.o,.x (.mp (abE dc)),bT,.x (fS y0),hl5.k 1 ⟨(rng [(0,1),(2,2),(7,2),(10,22),(35,39)]),[7],[],[]⟩,bT] (gc h7 (gc h6 (gc hl5.code (gc h4 (gc h3 (gc h2 (gr (.mp (abE dc)) (gc k1 (gc h1 (gc h0 gn))))))))))
theorem bVm(h0:cK .i64 (aL T) (.int .i64 x0))(h1:(dS (aL T) (.int .i64 x0))=false)(h2:cK .i64 (abE dc) (.int .i64 x0))(h3:(dS (abE dc) (.int .i64 x0))=true)(h4:fU (abE dc) (.int .i64 x0)=some (fS y0))(hl5:aH Tp 7 fP (cC dl sk dc ov x0 x1 x2 x3 x4 x5 (!(uI dl [x0,x1,x2,x3,x4,x5])) 0 y0 y0.length (aL T) T.length) (.exit 0) (cC dl sk dc ov x0 x1 x2 x3 x4 x5 is'1 i'2 l'3 n'4 (aL t'5) t'5.length))(h6:cK .i64 (aL t'5) (.int .i64 x0))(h7:(dS (aL t'5) (.int .i64 x0))=false):FMM Tp 154 [(.p (dcE x0 x1 x2 x3 x4 x5)),(.ptr 4 0),(.ptr 5 0),(.ptr 0 0),(.ptr 2 0)] (dF dl sk dc ov T) (pB is'1) [some (vB0 dl sk dc),some (.box 33 [(.p ov)]),some vB2,some (.mp ((aL t'5)++[((.int .i64 x0),(blP is'1))]) (t'5.length+1)),some (.box 207 [(.mp 3)]),some (vB5 dl sk dc),some vB6]:=by
 have k1:=fk 8 (aKb dl sk dc x0 x1 x2 x3 x4 x5) rfl;exact FMM.fi 7 ⟨[],[],[],[]⟩ Tryz.func154 [bF,k1.o,.x (.mp (abE dc)),bT,.x (fS y0),hl5.k 1 ⟨(rng [(0,1),(2,2),(7,2),(10,22),(35,39)]),[7],[],[]⟩,bF] (gc h7 (gc h6 (gc hl5.code (gc h4 (gc h3 (gc h2 (gr (.mp (abE dc)) (gc k1 (gc h1 (gc h0 gn))))))))))
theorem bVn(h0:cK .i64 (aL T) (.int .i64 x0))(h1:(dS (aL T) (.int .i64 x0))=false)(h2:cK .i64 (abE dc) (.int .i64 x0))(h3:(dS (abE dc) (.int .i64 x0))=false)(hl4:aH Tp 7 fP (cC dl sk dc ov x0 x1 x2 x3 x4 x5 (!(uI dl [x0,x1,x2,x3,x4,x5])) 0 ([]:Lqq) 0 (aL T) T.length) (.exit 0) (cC dl sk dc ov x0 x1 x2 x3 x4 x5 is'0 i'1 l'2 n'3 (aL t'4) t'4.length))(h5:cK .i64 (aL t'4) (.int .i64 x0))(h6:(dS (aL t'4) (.int .i64 x0))=true):FMM Tp 154 [(.p (dcE x0 x1 x2 x3 x4 x5)),(.ptr 4 0),(.ptr 5 0),(.ptr 0 0),(.ptr 2 0)] (dF dl sk dc ov T) (pB is'0) [some (vB0 dl sk dc),some (.box 33 [(.p ov)]),some vB2,some (.mp (pO (aL t'4) (.int .i64 x0) (blP is'0)) t'4.length),some (.box 207 [(.mp 3)]),some (vB5 dl sk dc),some vB6]:=by
 have k1:=fk 8 (aKb dl sk dc x0 x1 x2 x3 x4 x5) rfl;exact FMM.fi 7 ⟨[],[],[],[]⟩ Tryz.func154 [bF,k1.o,.x (.mp (abE dc)),bF,hl4.k 1 ⟨(rng [(0,1),(2,2),(7,2),(10,22),(35,39)]),[7],[],[(32,99999)]⟩,bT] (gc h6 (gc h5 (gc hl4.code (gc h3 (gc h2 (gr (.mp (abE dc)) (gc k1 (gc h1 (gc h0 gn)))))))))
theorem bVo(h0:cK .i64 (aL T) (.int .i64 x0))(h1:(dS (aL T) (.int .i64 x0))=false)(h2:cK .i64 (abE dc) (.int .i64 x0))(h3:(dS (abE dc) (.int .i64 x0))=false)(hl4:aH Tp 7 fP (cC dl sk dc ov x0 x1 x2 x3 x4 x5 (!(uI dl [x0,x1,x2,x3,x4,x5])) 0 ([]:Lqq) 0 (aL T) T.length) (.exit 0) (cC dl sk dc ov x0 x1 x2 x3 x4 x5 is'0 i'1 l'2 n'3 (aL t'4) t'4.length))(h5:cK .i64 (aL t'4) (.int .i64 x0))(h6:(dS (aL t'4) (.int .i64 x0))=false):FMM Tp 154 [(.p (dcE x0 x1 x2 x3 x4 x5)),(.ptr 4 0),(.ptr 5 0),(.ptr 0 0),(.ptr 2 0)] (dF dl sk dc ov T) (pB is'0) [some (vB0 dl sk dc),some (.box 33 [(.p ov)]),some vB2,some (.mp ((aL t'4)++[((.int .i64 x0),(blP is'0))]) (t'4.length+1)),some (.box 207 [(.mp 3)]),some (vB5 dl sk dc),some vB6]:=by
 have k1:=fk 8 (aKb dl sk dc x0 x1 x2 x3 x4 x5) rfl;exact FMM.fi 7 ⟨[],[],[],[]⟩ Tryz.func154 [bF,k1.o,.x (.mp (abE dc)),bF,hl4.k 1 ⟨(rng [(0,1),(2,2),(7,2),(10,22),(35,39)]),[7],[],[(32,99999)]⟩,bF] (gc h6 (gc h5 (gc hl4.code (gc h3 (gc h2 (gr (.mp (abE dc)) (gc k1 (gc h1 (gc h0 gn)))))))))
theorem bCc(h0:(i:Int)<(n:Int))(h1:l[i]? = some [y100,y101,y102,y103,y104,y105])(h2:uni 6 l)(h3:y101=5)(h4:is=true)(h5:sF dl sk dc ov [y100,y101,y102,y103,y104,y105] b106 t T107)(h6:b106=true)(h7:inR (((i+1):Nat):Int))(ei':i'=(i+1))(et'e:aL t'=(aL T107))(et'k:t'.length=T107.length):aC Tp 7 fP (cC dl sk dc ov x0 x1 x2 x3 x4 x5 is i l n (aL t) t.length) .normal (cC dl sk dc ov x0 x1 x2 x3 x4 x5 false i' l n (aL t') t'.length):=by
 subst ei';have k1:=mq [0,1,2,3,4,5,6] 9 h5;have raw:aC Tp 7 fP (cC dl sk dc ov x0 x1 x2 x3 x4 x5 is i l n (aL t) t.length) .normal (cC dl sk dc ov x0 x1 x2 x3 x4 x5 false (i+1) l n (aL T107) T107.length):=aC.fi ⟨(rng [(0,1),(2,2),(7,2),(10,22),(35,39)]),[7],[],[(9,0)]⟩ [bT,.x (dcE y100 y101 y102 y103 y104 y105),bT,bT,bT,bT,bT,bT,bT,bT,k1.o,bT,bT,bT,bT,bT,bT,bT,bT,bT,bT,bT] (gc h7 (gc h6 (gc (dX h3) (gc h6 (g4c (dX h3) (g4c h6 (gc k1 (g2c h4 (g6c (dX h3) (gc (aT (i:=i) h2 h1) (gc (bH (i:=i) h2 h1) (gc (bR (k:=6) (i:=(i:Int)) (by decide) h2 (kQ1 _) h1) (gc (aV h0) gn)))))))))))))
 exact raw.cast (by rw [et'e,et'k])
theorem bCd(h0:(i:Int)<(n:Int))(h1:l[i]? = some [y100,y101,y102,y103,y104,y105])(h2:uni 6 l)(h3:y101=5)(h4:is=true)(h5:sF dl sk dc ov [y100,y101,y102,y103,y104,y105] b106 t T107)(h6:b106=false)(h7:inR (((i+1):Nat):Int))(ei':i'=(i+1))(et'e:aL t'=(aL T107))(et'k:t'.length=T107.length):aC Tp 7 fP (cC dl sk dc ov x0 x1 x2 x3 x4 x5 is i l n (aL t) t.length) .normal (cC dl sk dc ov x0 x1 x2 x3 x4 x5 is i' l n (aL t') t'.length):=by
 subst ei';have k1:=mq [0,1,2,3,4,5,6] 9 h5;have raw:aC Tp 7 fP (cC dl sk dc ov x0 x1 x2 x3 x4 x5 is i l n (aL t) t.length) .normal (cC dl sk dc ov x0 x1 x2 x3 x4 x5 is (i+1) l n (aL T107) T107.length):=aC.fi ⟨(rng [(0,1),(2,2),(7,2),(10,22),(35,39)]),[7],[],[]⟩ [bT,.x (dcE y100 y101 y102 y103 y104 y105),bT,bT,bT,bT,bT,bT,bT,bT,k1.o,bF,bF,bF,bF,bF,bF] (gc h7 (g6c h6 (gc k1 (g2c h4 (g6c (dX h3) (gc (aT (i:=i) h2 h1) (gc (bH (i:=i) h2 h1) (gc (bR (k:=6) (i:=(i:Int)) (by decide) h2 (kQ1 _) h1) (gc (aV h0) gn)))))))))
 exact raw.cast (by rw [et'e,et'k])
theorem bCe(h0:(i:Int)<(n:Int))(h1:l[i]? = some [y100,y101,y102,y103,y104,y105])(h2:uni 6 l)(h3:y101=5)(h4:is=false)(h5:inR (((i+1):Nat):Int))(ei':i'=(i+1)):aC Tp 7 fP (cC dl sk dc ov x0 x1 x2 x3 x4 x5 is i l n (aL t) t.length) .normal (cC dl sk dc ov x0 x1 x2 x3 x4 x5 is i' l n (aL t) t.length):=by
 subst ei';exact aC.fi ⟨(rng [(0,1),(2,2),(7,2),(10,22),(35,39)]),[7],[],[]⟩ [bT,.x (dcE y100 y101 y102 y103 y104 y105),bT,bT,bT,bT,bT,bT,bF,bF] (gc h5 (g2c h4 (g6c (dX h3) (gc (aT (i:=i) h2 h1) (gc (bH (i:=i) h2 h1) (gc (bR (k:=6) (i:=(i:Int)) (by decide) h2 (kQ1 _) h1) (gc (aV h0) gn)))))))
theorem bCf(h0:(i:Int)<(n:Int))(h1:l[i]? = some [y100,y101,y102,y103,y104,y105])(h2:uni 6 l)(h3:y101≠5)(h4:y101=7)(h5:is=true)(h6:(cY x1)=false)(h7:sF dl sk dc ov [y100,y101,y102,y103,y104,y105] b106 t T107)(h8:b106=true)(h9:bOp dl sk dc ov [y100,y101,y102,y103,y104,y105] b108 T107 T109)(h10:b108=true)(h11:inR (((i+1):Nat):Int))(ei':i'=(i+1))(et'e:aL t'=(aL T109))(et'k:t'.length=T109.length):aC Tp 7 fP (cC dl sk dc ov x0 x1 x2 x3 x4 x5 is i l n (aL t) t.length) .normal (cC dl sk dc ov x0 x1 x2 x3 x4 x5 false i' l n (aL t') t'.length):=by
 subst ei';have k1:=mq [0,1,2,3,4,5,6] 9 h7;have k2:=mq [0,1,2,3,4,5,6] 9 h9;have raw:aC Tp 7 fP (cC dl sk dc ov x0 x1 x2 x3 x4 x5 is i l n (aL t) t.length) .normal (cC dl sk dc ov x0 x1 x2 x3 x4 x5 false (i+1) l n (aL T109) T109.length):=aC.fi ⟨(rng [(0,1),(2,2),(7,2),(10,22),(35,39)]),[7],[],[(9,0)]⟩ [bT,.x (dcE y100 y101 y102 y103 y104 y105),bF,bF,bF,bF,bT,bT,bT,.c (pB (cY x1)) [],bT,bF,bT,bF,bT,bT,bT,bT,bT,bT,k1.o,bT,bT,bT,bT,bT,bF,bF,bF,bF,k2.o,bT,bF,bT,bT] (gc h11 (gc h10 (gc h8 (gc (bJ h3) (gc h8 (gc k2 (g4c (bJ h3) (g4c h8 (gc (bI h6) (gc k1 (g4c (bI h6) (g2c h5 (gc (bJ h3) (gc (dX h4) (gc (bJ h3) (gc (dX h4) (gc (fk 9 (nV x1) rfl) (g3c (dX h4) (g4c (bJ h3) (gc (aT (i:=i) h2 h1) (gc (bH (i:=i) h2 h1) (gc (bR (k:=6) (i:=(i:Int)) (by decide) h2 (kQ1 _) h1) (gc (aV h0) gn)))))))))))))))))))))))
 exact raw.cast (by rw [et'e,et'k])
theorem bCg(h0:(i:Int)<(n:Int))(h1:l[i]? = some [y100,y101,y102,y103,y104,y105])(h2:uni 6 l)(h3:y101≠5)(h4:y101=7)(h5:is=true)(h6:(cY x1)=false)(h7:sF dl sk dc ov [y100,y101,y102,y103,y104,y105] b106 t T107)(h8:b106=true)(h9:bOp dl sk dc ov [y100,y101,y102,y103,y104,y105] b108 T107 T109)(h10:b108=false)(h11:inR (((i+1):Nat):Int))(ei':i'=(i+1))(et'e:aL t'=(aL T109))(et'k:t'.length=T109.length):aC Tp 7 fP (cC dl sk dc ov x0 x1 x2 x3 x4 x5 is i l n (aL t) t.length) .normal (cC dl sk dc ov x0 x1 x2 x3 x4 x5 is i' l n (aL t') t'.length):=by
 subst ei';have k1:=mq [0,1,2,3,4,5,6] 9 h7;have k2:=mq [0,1,2,3,4,5,6] 9 h9;have raw:aC Tp 7 fP (cC dl sk dc ov x0 x1 x2 x3 x4 x5 is i l n (aL t) t.length) .normal (cC dl sk dc ov x0 x1 x2 x3 x4 x5 is (i+1) l n (aL T109) T109.length):=aC.fi ⟨(rng [(0,1),(2,2),(7,2),(10,22),(35,39)]),[7],[],[]⟩ [bT,.x (dcE y100 y101 y102 y103 y104 y105),bF,bF,bF,bF,bT,bT,bT,.c (pB (cY x1)) [],bT,bF,bT,bF,bT,bT,bT,bT,bT,bT,k1.o,bT,bT,bT,bT,bT,bF,bF,bF,bF,k2.o,bT,bF,bT,bF] (gc h11 (gc h10 (gc h8 (gc (bJ h3) (gc h8 (gc k2 (g4c (bJ h3) (g4c h8 (gc (bI h6) (gc k1 (g4c (bI h6) (g2c h5 (gc (bJ h3) (gc (dX h4) (gc (bJ h3) (gc (dX h4) (gc (fk 9 (nV x1) rfl) (g3c (dX h4) (g4c (bJ h3) (gc (aT (i:=i) h2 h1) (gc (bH (i:=i) h2 h1) (gc (bR (k:=6) (i:=(i:Int)) (by decide) h2 (kQ1 _) h1) (gc (aV h0) gn)))))))))))))))))))))))
 exact raw.cast (by rw [et'e,et'k])
theorem bCh(h0:(i:Int)<(n:Int))(h1:l[i]? = some [y100,y101,y102,y103,y104,y105])(h2:uni 6 l)(h3:y101≠5)(h4:y101=7)(h5:is=true)(h6:(cY x1)=false)(h7:sF dl sk dc ov [y100,y101,y102,y103,y104,y105] b106 t T107)(h8:b106=false)(h9:inR (((i+1):Nat):Int))(ei':i'=(i+1))(et'e:aL t'=(aL T107))(et'k:t'.length=T107.length):aC Tp 7 fP (cC dl sk dc ov x0 x1 x2 x3 x4 x5 is i l n (aL t) t.length) .normal (cC dl sk dc ov x0 x1 x2 x3 x4 x5 is i' l n (aL t') t'.length):=by
 subst ei';have k1:=mq [0,1,2,3,4,5,6] 9 h7;have raw:aC Tp 7 fP (cC dl sk dc ov x0 x1 x2 x3 x4 x5 is i l n (aL t) t.length) .normal (cC dl sk dc ov x0 x1 x2 x3 x4 x5 is (i+1) l n (aL T107) T107.length):=aC.fi ⟨(rng [(0,1),(2,2),(7,2),(10,22),(35,39)]),[7],[],[]⟩ [bT,.x (dcE y100 y101 y102 y103 y104 y105),bF,bF,bF,bF,bT,bT,bT,.c (pB (cY x1)) [],bT,bF,bT,bF,bT,bT,bT,bT,bT,bT,k1.o,bT,bF,bF,bF,bF,bF,bF] (gc h9 (g6c h8 (gc (bI h6) (gc k1 (g4c (bI h6) (g2c h5 (gc (bJ h3) (gc (dX h4) (gc (bJ h3) (gc (dX h4) (gc (fk 9 (nV x1) rfl) (g3c (dX h4) (g4c (bJ h3) (gc (aT (i:=i) h2 h1) (gc (bH (i:=i) h2 h1) (gc (bR (k:=6) (i:=(i:Int)) (by decide) h2 (kQ1 _) h1) (gc (aV h0) gn)))))))))))))))))
 exact raw.cast (by rw [et'e,et'k])
theorem bCi(h0:(i:Int)<(n:Int))(h1:l[i]? = some [y100,y101,y102,y103,y104,y105])(h2:uni 6 l)(h3:y101≠5)(h4:y101=7)(h5:is=true)(h6:(cY x1)=true)(h7:inR (((i+1):Nat):Int))(ei':i'=(i+1)):aC Tp 7 fP (cC dl sk dc ov x0 x1 x2 x3 x4 x5 is i l n (aL t) t.length) .normal (cC dl sk dc ov x0 x1 x2 x3 x4 x5 is i' l n (aL t) t.length):=by
 subst ei';exact aC.fi ⟨(rng [(0,1),(2,2),(7,2),(10,22),(35,39)]),[7],[],[]⟩ [bT,.x (dcE y100 y101 y102 y103 y104 y105),bF,bF,bF,bF,bT,bT,bT,.c (pB (cY x1)) [],bT,bF,bT,bF,bT,bT,bF,bF,bF,bF,bF] (gc h7 (g5c (aI h6) (g2c h5 (gc (bJ h3) (gc (dX h4) (gc (bJ h3) (gc (dX h4) (gc (fk 9 (nV x1) rfl) (g3c (dX h4) (g4c (bJ h3) (gc (aT (i:=i) h2 h1) (gc (bH (i:=i) h2 h1) (gc (bR (k:=6) (i:=(i:Int)) (by decide) h2 (kQ1 _) h1) (gc (aV h0) gn))))))))))))))
theorem bCj(h0:(i:Int)<(n:Int))(h1:l[i]? = some [y100,y101,y102,y103,y104,y105])(h2:uni 6 l)(h3:y101≠5)(h4:y101=7)(h5:is=false)(h6:inR (((i+1):Nat):Int))(ei':i'=(i+1)):aC Tp 7 fP (cC dl sk dc ov x0 x1 x2 x3 x4 x5 is i l n (aL t) t.length) .normal (cC dl sk dc ov x0 x1 x2 x3 x4 x5 is i' l n (aL t) t.length):=by
 subst ei';exact aC.fi ⟨(rng [(0,1),(2,2),(7,2),(10,22),(35,39)]),[7],[],[]⟩ [bT,.x (dcE y100 y101 y102 y103 y104 y105),bF,bF,bF,bF,bT,bT,bT,.c (pB (cY x1)) [],bT,bF,bT,bF,bF,bF] (gc h6 (g2c h5 (gc (bJ h3) (gc (dX h4) (gc (bJ h3) (gc (dX h4) (gc (fk 9 (nV x1) rfl) (g3c (dX h4) (g4c (bJ h3) (gc (aT (i:=i) h2 h1) (gc (bH (i:=i) h2 h1) (gc (bR (k:=6) (i:=(i:Int)) (by decide) h2 (kQ1 _) h1) (gc (aV h0) gn)))))))))))))
theorem bCk(h0:(i:Int)<(n:Int))(h1:l[i]? = some [y100,y101,y102,y103,y104,y105])(h2:uni 6 l)(h3:y101≠5)(h4:y101≠7)(h5:is=true)(h6:inR (((i+1):Nat):Int))(ei':i'=(i+1)):aC Tp 7 fP (cC dl sk dc ov x0 x1 x2 x3 x4 x5 is i l n (aL t) t.length) .normal (cC dl sk dc ov x0 x1 x2 x3 x4 x5 is i' l n (aL t) t.length):=by
 subst ei';exact aC.fi ⟨(rng [(0,1),(2,2),(7,2),(10,22),(35,39)]),[7],[],[]⟩ [bT,.x (dcE y100 y101 y102 y103 y104 y105),bF,bF,bF,bF,bF,bF,bF,bF,bF,bF,bF,bT,bT] (gc h6 (g2c h5 (gc (bJ h3) (gc (bJ h4) (gc (bJ h3) (g4c (bJ h4) (g4c (bJ h3) (gc (aT (i:=i) h2 h1) (gc (bH (i:=i) h2 h1) (gc (bR (k:=6) (i:=(i:Int)) (by decide) h2 (kQ1 _) h1) (gc (aV h0) gn)))))))))))
theorem bCl(h0:(i:Int)<(n:Int))(h1:l[i]? = some [y100,y101,y102,y103,y104,y105])(h2:uni 6 l)(h3:y101≠5)(h4:y101≠7)(h5:is=false)(h6:inR (((i+1):Nat):Int))(ei':i'=(i+1)):aC Tp 7 fP (cC dl sk dc ov x0 x1 x2 x3 x4 x5 is i l n (aL t) t.length) .normal (cC dl sk dc ov x0 x1 x2 x3 x4 x5 is i' l n (aL t) t.length):=by
 subst ei';exact aC.fi ⟨(rng [(0,1),(2,2),(7,2),(10,22),(35,39)]),[7],[],[]⟩ [bT,.x (dcE y100 y101 y102 y103 y104 y105),bF,bF,bF,bF,bF,bF,bF,bF,bF,bF,bF,bF,bF] (gc h6 (g2c h5 (gc (bJ h3) (gc (bJ h4) (gc (bJ h3) (g4c (bJ h4) (g4c (bJ h3) (gc (aT (i:=i) h2 h1) (gc (bH (i:=i) h2 h1) (gc (bR (k:=6) (i:=(i:Int)) (by decide) h2 (kQ1 _) h1) (gc (aV h0) gn)))))))))))
theorem aSs(h0:(n:Int)≤(i:Int)):aC Tp 7 fP (cC dl sk dc ov x0 x1 x2 x3 x4 x5 is i l n (aL t) t.length) (.exit 0) (cC dl sk dc ov x0 x1 x2 x3 x4 x5 is i l n (aL t) t.length):=by
 exact aC.fi ⟨(rng [(0,1),(2,2),(7,2),(10,22),(35,39)]),[7],[],[]⟩ [bF] (gc (bA h0) gn)
theorem bJo(h0:bVe 155 dl sk dc ov [x0,x1,x2,x3,x4,x5] [z0,z1,z2,z3,z4,z5] b6 T T7):FMM Tp 156 [(.p (dcE x0 x1 x2 x3 x4 x5)),(.ptr 6 0)] (dF dl sk dc ov T) (.tup [(.p (dcE z0 z1 z2 z3 z4 z5)),(pB b6)]) (dF dl sk dc ov T7):=by
 have k1:=mq [0,1,2,3,4,5,6] 9 h0;exact FMM.fi 7 ⟨[],[],[],[]⟩ Tryz.func156 [k1.o] (gc k1 gn)
theorem bJp(h0:bVe 159 dl sk dc ov [x0,x1,x2,x3,x4,x5] [z0,z1,z2,z3,z4,z5] b6 T T7):FMM Tp 158 [(.p (dcE x0 x1 x2 x3 x4 x5)),(.ptr 6 0)] (dF dl sk dc ov T) (.tup [(.p (dcE z0 z1 z2 z3 z4 z5)),(pB b6)]) (dF dl sk dc ov T7):=by
 have k1:=mq [0,1,2,3,4,5,6] 9 h0;exact FMM.fi 7 ⟨[],[],[],[]⟩ Tryz.func158 [k1.o] (gc k1 gn)
theorem bVp(h0:aNv dl sk dc ov [x0,x1,x2,x3,x4,x5] [z0,z1,z2,z3,z4,z5] b6 T T7)(h1:b6=true)(er0:r0=(z1 == (8:Int))):FMM Tp 157 [(.p (dcE x0 x1 x2 x3 x4 x5)),(.ptr 2 0),(.ptr 1 0)] (dF dl sk dc ov T) (pB r0) (dF dl sk dc ov T7):=by
 subst er0;have k1:=mq [0,1,2,3,4,5,6] 8 h0;exact FMM.fi 7 ⟨[],[],[],[]⟩ Tryz.func157 [k1.o,bT] (gc h1 (gc k1 gn))
theorem bVq{b8:Bool}(h0:aNv dl sk dc ov [x0,x1,x2,x3,x4,x5] [z0,z1,z2,z3,z4,z5] b6 T T7)(h1:b6=false)(h2:tV ov x0 b8):FMM Tp 157 [(.p (dcE x0 x1 x2 x3 x4 x5)),(.ptr 2 0),(.ptr 1 0)] (dF dl sk dc ov T) (pB b8) (dF dl sk dc ov T7):=by
 have k1:=mq [0,1,2,3,4,5,6] 8 h0;exact FMM.fi 7 ⟨[],[],[],[]⟩ Tryz.func157 [k1.o,bF,.c (pB b8) []] (gc (fk 9 (h2 _) rfl) (gc h1 (gc k1 gn)))
theorem bVr{m8:Int}{T9:Lqb}(h0:bVf dl sk dc ov [x0,x1,x2,x3,x4,x5] [z0,z1,z2,z3,z4,z5] b6 T T7)(h1:b6=true)(h2:aAq dl sk dc ov [z0,z1,z2,z3,z4,z5] m8 T7 T9):FMM Tp 160 [(.p (dcE x0 x1 x2 x3 x4 x5)),(.ptr 2 0)] (dF dl sk dc ov T) (pI m8) (dF dl sk dc ov T9):=by
 have k1:=mq [0,1,2,3,4,5,6] 8 h0;have k2:=mq [0,1,2,3,4,5,6] 9 h2;exact FMM.fi 7 ⟨[],[],[],[]⟩ Tryz.func160 [k1.o,bT,k2.o] (gc k2 (gc h1 (gc k1 gn)))
theorem bVs(h0:bVf dl sk dc ov [x0,x1,x2,x3,x4,x5] [z0,z1,z2,z3,z4,z5] b6 T T7)(h1:b6=false):FMM Tp 160 [(.p (dcE x0 x1 x2 x3 x4 x5)),(.ptr 2 0)] (dF dl sk dc ov T) (pI x4) (dF dl sk dc ov T7):=by
 have k1:=mq [0,1,2,3,4,5,6] 8 h0;exact FMM.fi 7 ⟨[],[],[],[]⟩ Tryz.func160 [k1.o,bF] (gc h1 (gc k1 gn))
theorem aKc:FMM Tp 87 [(.rp (aX dl sk dc) 0),(.p dR)] [] yD [some (vB0 dl sk dc),some (.box 33 [(.p dR)]),some vB2,some (.mp [] 0),some (.box 207 [(.mp 3)]),some (vB5 dl sk dc),some vB6]:=by
 exact FMM.fi 0 ⟨[],[0,1,3,4,5,6,7],[],[]⟩ Tryz.func87 [] gn
theorem qH{on:Nat}{ol:List PV}:FMM Tp 87 [(.rp (aX dl sk dc) 0),(.p (.sl on ol))] [] yD [some (vB0 dl sk dc),some (.box 33 [(.p (.sl on ol))]),some vB2,some (.mp [] 0),some (.box 207 [(.mp 3)]),some (vB5 dl sk dc),some vB6]:=by
 exact FMM.fi 0 ⟨[],[0,1,3,4,5,6,7],[],[]⟩ Tryz.func87 [] gn
end
section
section
variable {dc:Lqq}
theorem aJw(h:bZ dc){n:Int}(hn:1≤n∧n≤9999):cK .i64 (abE dc) (.int .i64 n):=by
 have ha:=aSv h;refine ⟨fun e he => ?_,oK (by omega),?_⟩
 ·obtain ⟨p,hp,rfl⟩:=kQ9.1 he
  obtain ⟨q1,q2,q3⟩:=ha.mem p hp;cases hx:p.2 with
  | nil=>exact absurd hx q2
  | cons x r =>
   have:x∈dc.reverse.filter fun x=>dAb x == p.1:=by rw [← q3,hx];exact gY ..
   obtain ⟨h1,h2⟩:=nA.1 this;have:=mS h x (aAk.1 h1);have h2:dAb x=p.1:=by simpa using h2
   exact oK (by omega)
 ·have:(abE dc).map (fun e=>iZ e.1)=(abM dc).map (·.1):=by
   unfold abE;rw [tS];rfl
  rw [this];exact ha.nd
theorem aJx(h:bZ dc){n:Int}(hn:0<n):(dS (abE dc) (.int .i64 n)=true∧fU (abE dc) (.int .i64 n)=some (.sl (bY dc n).length ((bY dc n).flatten.map aB)))∨(dS (abE dc) (.int .i64 n)=false∧bY dc n=[]):=by
 have ha:=aSv h;have e1:dS (abE dc) (.int .i64 n)=(abM dc).any fun e=>e.1 == n:=by
  unfold dS abE;rw [List.any_map]
  congr 1
 have e2:fU (abE dc) (.int .i64 n)=((abM dc).find? fun e=>e.1 == n).map fun e => .sl e.2.length (e.2.flatten.map aB):=by
  unfold fU abE;generalize abM dc=L
  induction L with
  | nil=>rfl
  | cons p L ih =>
   rw [gZ,List.find?_cons,List.find?_cons];have e:(decide (iZ (((Value.int IntKind.i64 p.1),PV.sl p.2.length (p.2.flatten.map aB)):Value × PV).1=iZ (Value.int IntKind.i64 n)))=(p.1 == n):=by
    show decide (p.1=n)=(p.1 == n);rw [Bool.eq_iff_iff];simp
   rw [e];cases p.1 == n with
   | true=>rfl
   | false=>exact ih
 rw [e1,e2];cases hf:(abM dc).find? fun e=>e.1 == n with
 | some e =>
  have h1:=tQ hf;have h2:e.1=n:=by simpa using aNj hf
  obtain ⟨q1,q2,q3⟩:=ha.mem e h1;refine .inl ⟨List.any_eq_true.2 ⟨e,h1,by simpa using h2⟩,?_⟩
  have:e.2=bY dc n:=by rw [q3,h2];rfl
  rw [Option.map_some,this]
 | none =>
  refine .inr ⟨?_,?_⟩
  ·rw [List.any_eq_false]
   intro e he;exact xT.1 hf e he
  ·rw [← bJu h hn]
   unfold zT;rw [hf]
theorem iG(h:bZ dc)(n:Int):uni 6 (bY dc n):=fun y hy=>h.ud y (eP hy).1
theorem yC(h:bZ dc)(n:Int):(bY dc n).length≤1000:=by
 have:=tR (fun x=>dAb x == n) dc.reverse
 have h2:=h.len;rw [List.length_reverse] at this
 unfold bY;omega
theorem aWc{α:Type}{p:α→Bool}{l:List α}{i:Nat}{x:α}(hi:l[i]? = some x)(hp:p x=true)(hj:∀ j y,j<i→l[j]? = some y→p y=false):l.find? p=some x:=by
 obtain ⟨h1,h2⟩:=kQ3.1 hi;rw [List.find?_eq_some_iff_getElem];exact ⟨hp,i,h1,h2,fun j h=>by
  rw [hj j l[j] h (kQ0 (by omega))];rfl⟩
end
def zero6:List Int:=[0,0,0,0,0,0]
section
variable (dl:Int) (sk dc:Lqq) (oc:List Int) (ov:PV)
def qW(x:List Int):Prop:=∀ T,cL dl oc dc T→∃ T',cL dl oc dc T'∧sF dl sk dc ov x (dY dl oc dc x) T T'
def bSo(g:Nat)(q:List Int→Bool)(x:List Int):Prop:=∀ T,cL dl oc dc T→∃ T',cL dl oc dc T'∧bVe g dl sk dc ov x (((bY dc (dN x)).find? fun y=>q y && dY dl oc dc y).getD zero6) ((bY dc (dN x)).find? fun y=>q y && dY dl oc dc y).isSome T T'
def bSp(x:List Int):Prop:=∀ T,cL dl oc dc T→∃ T',cL dl oc dc T'∧aNv dl sk dc ov x ((vG dl oc dc x).getD zero6) (vG dl oc dc x).isSome T T'
def bSq(x:List Int):Prop:=∀ T,cL dl oc dc T→∃ T',cL dl oc dc T'∧bVf dl sk dc ov x ((aKd dl oc dc x).getD zero6) (aKd dl oc dc x).isSome T T'
def aWd(x:List Int):Prop:=∀ T,cL dl oc dc T→∃ T',cL dl oc dc T'∧bOp dl sk dc ov x (aFs dl oc dc x) T T'
def bSr(x:List Int):Prop:=∀ T,cL dl oc dc T→∃ T',cL dl oc dc T'∧aAq dl sk dc ov x (pH dl oc dc x) T T'
end
section
variable {dl:Int} {sk dc:Lqq} {oc:List Int} {ov:PV}
theorem bCa(l:Lqq)(hu:uni 6 l)(hl:l.length≤1000)(hC:∀ y∈l,qW dl sk dc oc ov y)(T:Lqb)(hT:cL dl oc dc T) :
  (∃ i T' y,l[i]? = some y∧(cY (dK y) && dY dl oc dc y)=true∧(∀ j z,j<i→l[j]? = some z→(cY (dK z) && dY dl oc dc z)=false)∧cL dl oc dc T'∧aH Tp 7 (sub (cd Tryz.f153) [1,0,1,0,0]) (dG dl sk dc ov 0 l l.length (aL T) T.length 0 0 0 0 0 0) .ret (dI (dG dl sk dc ov i l l.length (aL T') T'.length (y.getD 0 0) (y.getD 1 0) (y.getD 2 0) (y.getD 3 0) (y.getD 4 0) (y.getD 5 0)) [(7,.kb true)])) ∨
  ((l.find? fun y=>cY (dK y) && dY dl oc dc y)=none∧∃ T',cL dl oc dc T'∧aH Tp 7 (sub (cd Tryz.f153) [1,0,1,0,0]) (dG dl sk dc ov 0 l l.length (aL T) T.length 0 0 0 0 0 0) (.exit 0) (dG dl sk dc ov l.length l l.length (aL T') T'.length 0 0 0 0 0 0)):=by
 have hx:∀ i,i<l.length→∃ a b c d e f,l[i]? = some [a,b,c,d,e,f]∧l.getD i []=[a,b,c,d,e,f]∧[a,b,c,d,e,f]∈l:=fun i hi=>by
  obtain ⟨a,b,c,d,e,f,h⟩:=len6 (hu _ (gS hi));have h1:l[i]? = some [a,b,c,d,e,f]:=by rw [kQ0 hi,h]
  exact ⟨a,b,c,d,e,f,h1,by rw [kQ4,h1];rfl,kQ5 h1⟩
 rcases aH.exF (P:=Tp) (k:=7) (b:=sub (cd Tryz.f153) [1,0,1,0,0]) (e1 := .ret) (e2 := .exit 0) (fun i T=>dG dl sk dc ov i l l.length (aL T) T.length 0 0 0 0 0 0)
  (fun i T=>dI (dG dl sk dc ov i l l.length (aL T) T.length ((l.getD i []).getD 0 0) ((l.getD i []).getD 1 0) ((l.getD i []).getD 2 0) ((l.getD i []).getD 3 0) ((l.getD i []).getD 4 0) ((l.getD i []).getD 5 0)) [(7,.kb true)])
  (fun T=>dG dl sk dc ov l.length l l.length (aL T) T.length 0 0 0 0 0 0) (cL dl oc dc) (by simp) (by simp) (fun i=>cY (dK (l.getD i [])) && dY dl oc dc (l.getD i [])) l.length
  (fun i T1 hi h1 hp=>by
   obtain ⟨a,b,c,d,e,f,g1,g2,g3⟩:=hx i hi;rw [g2] at hp
   cases hq:cY b with
   | false=>exact ⟨T1,h1,aSm (by omega) g1 hu hq (aO (by omega)) rfl⟩
   | true =>
    have hp:(cY b && dY dl oc dc [a,b,c,d,e,f])=false:=hp;rw [hq,hZ] at hp
    obtain ⟨T2,h2,c2⟩:=hC _ g3 T1 h1;rw [hp] at c2
    exact ⟨T2,h2,aSl (by omega) g1 hu hq c2 rfl (aO (by omega)) rfl rfl rfl⟩)
  (fun i T1 hi h1 hp=>by
   obtain ⟨a,b,c,d,e,f,g1,g2,g3⟩:=hx i hi;rw [g2] at hp ⊢
   rw [kQ7] at hp
   obtain ⟨T2,h2,c2⟩:=hC _ g3 T1 h1;rw [hp.2] at c2
   exact ⟨T2,h2,aSk (by omega) g1 hu hp.1 c2 rfl rfl rfl⟩)
  (fun T1 h1=>aSn (by omega)) hT with ⟨i,T',h1,h2,h3,h4,h5⟩ | ⟨h1,T',h2,h3⟩
 ·obtain ⟨a,b,c,d,e,f,g1,g2,g3⟩:=hx i h1
  rw [g2] at h2 h5
  refine .inl ⟨i,T',_,g1,h2,fun j z hj hz => ?_,h4,h5⟩
  have:=h3 j hj;rw [kQ4,hz] at this
  exact this
 ·refine .inr ⟨?_,T',h2,h3⟩
  rw [xT];intro y hy;obtain ⟨i,hi,rfl⟩:=List.mem_iff_getElem.1 hy;have:=h1 i hi;rw [kQ4,kQ0 hi] at this
  simpa using this
theorem bOn(hd:bZ dc){x:List Int}(hx:x∈dc)(hC:∀ y∈bY dc (dN x),qW dl sk dc oc ov y):bSo dl sk dc oc ov 155 (fun y=>cY (dK y)) x:=fun T hT=>by
 have hn:=eX hd hx;have hk:=aJw hd hn;have hL:=bCa (bY dc (dN x)) (iG hd _) (yC hd _) hC T hT;obtain ⟨x0,x1,x2,x3,x4,x5,rfl⟩:=len6 (hd.ud x hx)
 rcases aJx hd (n:=dN [x0,x1,x2,x3,x4,x5]) (by omega) with ⟨h1,h2⟩ | ⟨h1,h2⟩
 ·rcases hL with ⟨i,T',y,q1,q2,q3,q4,q5⟩ | ⟨q1,T',q2,q3⟩
  ·have hf:=aWc (p:=fun y=>cY (dK y) && dY dl oc dc y) q1 q2 q3
   rw [hf];obtain ⟨a,b,c,d,e,f,rfl⟩:=len6 (iG hd _ _ (kQ5 q1));exact ⟨T',q4,bOu hk h1 h2 q5⟩
  ·rw [q1]
   exact ⟨T',q2,bOt hk h1 h2 q3⟩
 ·rw [h2] at hL ⊢
  rcases hL with ⟨i,T',y,q1,q2,q3,q4,q5⟩ | ⟨q1,T',q2,q3⟩
  ·simp at q1
  ·exact ⟨T',q2,bOv hk h1 q3⟩
theorem bCb(l:Lqq)(hu:uni 6 l)(hl:l.length≤1000)(hC:∀ y∈l,qW dl sk dc oc ov y)(T:Lqb)(hT:cL dl oc dc T) :
  (∃ i T' y,l[i]? = some y∧(dK y == 6 && dY dl oc dc y)=true∧(∀ j z,j<i→l[j]? = some z→(dK z == 6 && dY dl oc dc z)=false)∧cL dl oc dc T'∧aH Tp 7 (sub (cd Tryz.f153) [1,0,1,0,0]) (dH dl sk dc ov 0 l l.length (aL T) T.length 0 0 0 0 0 0) .ret (dI (dH dl sk dc ov i l l.length (aL T') T'.length (y.getD 0 0) (y.getD 1 0) (y.getD 2 0) (y.getD 3 0) (y.getD 4 0) (y.getD 5 0)) [(7,.kb true)])) ∨
  ((l.find? fun y=>dK y == 6 && dY dl oc dc y)=none∧∃ T',cL dl oc dc T'∧aH Tp 7 (sub (cd Tryz.f153) [1,0,1,0,0]) (dH dl sk dc ov 0 l l.length (aL T) T.length 0 0 0 0 0 0) (.exit 0) (dH dl sk dc ov l.length l l.length (aL T') T'.length 0 0 0 0 0 0)):=by
 have hx:∀ i,i<l.length→∃ a b c d e f,l[i]? = some [a,b,c,d,e,f]∧l.getD i []=[a,b,c,d,e,f]∧[a,b,c,d,e,f]∈l:=fun i hi=>by
  obtain ⟨a,b,c,d,e,f,h⟩:=len6 (hu _ (gS hi));have h1:l[i]? = some [a,b,c,d,e,f]:=by rw [kQ0 hi,h]
  exact ⟨a,b,c,d,e,f,h1,by rw [kQ4,h1];rfl,kQ5 h1⟩
 rcases aH.exF (P:=Tp) (k:=7) (b:=sub (cd Tryz.f153) [1,0,1,0,0]) (e1 := .ret) (e2 := .exit 0) (fun i T=>dH dl sk dc ov i l l.length (aL T) T.length 0 0 0 0 0 0)
  (fun i T=>dI (dH dl sk dc ov i l l.length (aL T) T.length ((l.getD i []).getD 0 0) ((l.getD i []).getD 1 0) ((l.getD i []).getD 2 0) ((l.getD i []).getD 3 0) ((l.getD i []).getD 4 0) ((l.getD i []).getD 5 0)) [(7,.kb true)])
  (fun T=>dH dl sk dc ov l.length l l.length (aL T) T.length 0 0 0 0 0 0) (cL dl oc dc) (by simp) (by simp) (fun i=>dK (l.getD i []) == 6 && dY dl oc dc (l.getD i [])) l.length
  (fun i T1 hi h1 hp=>by
   obtain ⟨a,b,c,d,e,f,g1,g2,g3⟩:=hx i hi;rw [g2] at hp
   cases hq:(b == 6) with
   | false=>exact ⟨T1,h1,aSq (by omega) g1 hu hq (aO (by omega)) rfl⟩
   | true =>
    have hp:((b == 6) && dY dl oc dc [a,b,c,d,e,f])=false:=hp;rw [hq,hZ] at hp
    obtain ⟨T2,h2,c2⟩:=hC _ g3 T1 h1;rw [hp] at c2
    exact ⟨T2,h2,aSp (by omega) g1 hu hq c2 rfl (aO (by omega)) rfl rfl rfl⟩)
  (fun i T1 hi h1 hp=>by
   obtain ⟨a,b,c,d,e,f,g1,g2,g3⟩:=hx i hi;rw [g2] at hp ⊢
   rw [kQ7] at hp
   obtain ⟨T2,h2,c2⟩:=hC _ g3 T1 h1;rw [hp.2] at c2
   exact ⟨T2,h2,aSo (by omega) g1 hu hp.1 c2 rfl rfl rfl⟩)
  (fun T1 h1=>aSr (by omega)) hT with ⟨i,T',h1,h2,h3,h4,h5⟩ | ⟨h1,T',h2,h3⟩
 ·obtain ⟨a,b,c,d,e,f,g1,g2,g3⟩:=hx i h1
  rw [g2] at h2 h5
  refine .inl ⟨i,T',_,g1,h2,fun j z hj hz => ?_,h4,h5⟩
  have:=h3 j hj;rw [kQ4,hz] at this
  exact this
 ·refine .inr ⟨?_,T',h2,h3⟩
  rw [xT];intro y hy;obtain ⟨i,hi,rfl⟩:=List.mem_iff_getElem.1 hy;have:=h1 i hi;rw [kQ4,kQ0 hi] at this
  simpa using this
theorem bOo(hd:bZ dc){x:List Int}(hx:x∈dc)(hC:∀ y∈bY dc (dN x),qW dl sk dc oc ov y):bSo dl sk dc oc ov 159 (fun y=>dK y == 6) x:=fun T hT=>by
 have hn:=eX hd hx;have hk:=aJw hd hn;have hL:=bCb (bY dc (dN x)) (iG hd _) (yC hd _) hC T hT;obtain ⟨x0,x1,x2,x3,x4,x5,rfl⟩:=len6 (hd.ud x hx)
 rcases aJx hd (n:=dN [x0,x1,x2,x3,x4,x5]) (by omega) with ⟨h1,h2⟩ | ⟨h1,h2⟩
 ·rcases hL with ⟨i,T',y,q1,q2,q3,q4,q5⟩ | ⟨q1,T',q2,q3⟩
  ·have hf:=aWc (p:=fun y=>dK y == 6 && dY dl oc dc y) q1 q2 q3
   rw [hf];obtain ⟨a,b,c,d,e,f,rfl⟩:=len6 (iG hd _ _ (kQ5 q1));exact ⟨T',q4,bOx hk h1 h2 q5⟩
  ·rw [q1]
   exact ⟨T',q2,bOw hk h1 h2 q3⟩
 ·rw [h2] at hL ⊢
  rcases hL with ⟨i,T',y,q1,q2,q3,q4,q5⟩ | ⟨q1,T',q2,q3⟩
  ·simp at q1
  ·exact ⟨T',q2,bOy hk h1 q3⟩

theorem bJk(hd:bZ dc){x:List Int}(hx:x∈dc)(hC:∀ y∈bY dc (dN x),qW dl sk dc oc ov y):bSp dl sk dc oc ov x:=fun T hT=>by
 obtain ⟨T',h1,h2⟩:=bOn hd hx hC T hT;rw [← aDz hd hx] at h2
 obtain ⟨x0,x1,x2,x3,x4,x5,rfl⟩:=len6 (hd.ud x hx);have hz:∀ z,vG dl oc dc [x0,x1,x2,x3,x4,x5]=some z→z.length=6:=fun z hz=>by
  rw [aDz hd hx] at hz
  exact iG hd _ z (tQ hz)
 cases hr:vG dl oc dc [x0,x1,x2,x3,x4,x5] with
 | none =>
  rw [hr] at h2
  exact ⟨T',h1,bJo (z0:=0) (z1:=0) (z2:=0) (z3:=0) (z4:=0) (z5:=0) h2⟩
 | some z =>
  obtain ⟨a,b,c,d,e,f,rfl⟩:=len6 (hz z hr);rw [hr] at h2
  exact ⟨T',h1,bJo h2⟩
theorem bVc(hd:bZ dc){x:List Int}(hx:x∈dc)(hC:∀ y∈bY dc (dN x),qW dl sk dc oc ov y):bSq dl sk dc oc ov x:=fun T hT=>by
 obtain ⟨T',h1,h2⟩:=bOo hd hx hC T hT;rw [← aEa hd hx] at h2
 obtain ⟨x0,x1,x2,x3,x4,x5,rfl⟩:=len6 (hd.ud x hx);have hz:∀ z,aKd dl oc dc [x0,x1,x2,x3,x4,x5]=some z→z.length=6:=fun z hz=>by
  rw [aEa hd hx] at hz
  exact iG hd _ z (tQ hz)
 cases hr:aKd dl oc dc [x0,x1,x2,x3,x4,x5] with
 | none =>
  rw [hr] at h2
  exact ⟨T',h1,bJp (z0:=0) (z1:=0) (z2:=0) (z3:=0) (z4:=0) (z5:=0) h2⟩
 | some z =>
  obtain ⟨a,b,c,d,e,f,rfl⟩:=len6 (hz z hr);rw [hr] at h2
  exact ⟨T',h1,bJp h2⟩
theorem bJl(hd:bZ dc)(hov:∀ n,tV ov n (oc.contains n)){x:List Int}(hx:x∈dc)(hC:∀ y∈bY dc (dN x),qW dl sk dc oc ov y):aWd dl sk dc oc ov x:=fun T hT=>by
 obtain ⟨T',h1,h2⟩:=bJk hd hx hC T hT;rw [bVv hd hx];obtain ⟨x0,x1,x2,x3,x4,x5,rfl⟩:=len6 (hd.ud x hx);have hz:∀ z,vG dl oc dc [x0,x1,x2,x3,x4,x5]=some z→z.length=6:=fun z hz=>by
  rw [aDz hd hx] at hz
  exact iG hd _ z (tQ hz)
 cases hr:vG dl oc dc [x0,x1,x2,x3,x4,x5] with
 | none =>
  rw [hr] at h2
  exact ⟨T',h1,bVq (z0:=0) (z1:=0) (z2:=0) (z3:=0) (z4:=0) (z5:=0) h2 rfl (hov _)⟩
 | some z =>
  obtain ⟨a,b,c,d,e,f,rfl⟩:=len6 (hz z hr);rw [hr] at h2
  exact ⟨T',h1,bVp h2 rfl rfl⟩
abbrev qG(dl:Int)(oc:List Int)(dc:Lqq)(x y:List Int):Bool:=wQ x y && dY dl oc dc y && (dK y == 5 || aFs dl oc dc y)
theorem bJm{x0 x1 x2 x3 x4 x5:Int}(hd:bZ dc)(l:Lqq)(hu:uni 6 l)(hl:l.length≤1000)(hC:∀ y∈l,qW dl sk dc oc ov y)(hU:∀ y∈l,aWd dl sk dc oc ov y)(T:Lqb)(hT:cL dl oc dc T)(is:Bool) :
  ∃ T',cL dl oc dc T'∧aH Tp 7 (sub (cd Tryz.f154) [1,1,1,0,1,0,0]) (cC dl sk dc ov x0 x1 x2 x3 x4 x5 is 0 l l.length (aL T) T.length) (.exit 0) (cC dl sk dc ov x0 x1 x2 x3 x4 x5 (is && !(l.any (qG dl oc dc [x0,x1,x2,x3,x4,x5]))) l.length l l.length (aL T') T'.length):=by
 have hx:∀ i,i<l.length→∃ a b c d e f,l[i]? = some [a,b,c,d,e,f]∧[a,b,c,d,e,f]∈l:=fun i hi=>by
  obtain ⟨a,b,c,d,e,f,h⟩:=len6 (hu _ (gS hi));have h1:l[i]? = some [a,b,c,d,e,f]:=by rw [kQ0 hi,h]
  exact ⟨a,b,c,d,e,f,h1,kQ5 h1⟩
 have et:∀ i y,l[i]? = some y→(l.take (i+1)).any (qG dl oc dc [x0,x1,x2,x3,x4,x5])=((l.take i).any (qG dl oc dc [x0,x1,x2,x3,x4,x5]) || qG dl oc dc [x0,x1,x2,x3,x4,x5] y):=fun i y h=>by
  rw [List.take_add_one,h,List.any_append];simp
 obtain ⟨acc, ⟨h1,h2⟩,h3⟩:=aH.ex (P:=Tp) (k:=7) (b:=sub (cd Tryz.f154) [1,1,1,0,1,0,0]) (e := .exit 0) (fun i (a:Bool × Lqb)=>cC dl sk dc ov x0 x1 x2 x3 x4 x5 a.1 i l l.length (aL a.2) a.2.length)
  (fun a=>cC dl sk dc ov x0 x1 x2 x3 x4 x5 a.1 l.length l l.length (aL a.2) a.2.length) (fun i a=>cL dl oc dc a.2∧a.1=(is && !((l.take i).any (qG dl oc dc [x0,x1,x2,x3,x4,x5])))) (by simp) l.length
  (fun i acc hi hI=>by
   obtain ⟨b,T1⟩:=acc;obtain ⟨h1,h2⟩:=hI;dsimp only at h1 h2
   obtain ⟨a,k,c,d,e,f,g1,g3⟩:=hx i hi;rw [et i _ g1];cases hb:b with
   | false =>
    rw [hb] at h2
    have hI:∀ q:Bool,false=(is && !((l.take i).any (qG dl oc dc [x0,x1,x2,x3,x4,x5]) || q)):=fun q=>by
     revert h2;cases is <;> cases (l.take i).any (qG dl oc dc [x0,x1,x2,x3,x4,x5]) <;> cases q <;> simp
    by_cases h5:k=5
    ·exact ⟨(false,T1),⟨h1,hI _⟩,bCe (by omega) g1 hu h5 rfl (aO (by omega)) rfl⟩
    ·by_cases h7:k=7
     ·exact ⟨(false,T1),⟨h1,hI _⟩,bCj (by omega) g1 hu h5 h7 rfl (aO (by omega)) rfl⟩
     ·exact ⟨(false,T1),⟨h1,hI _⟩,bCl (by omega) g1 hu h5 h7 rfl (aO (by omega)) rfl⟩
   | true =>
    rw [hb] at h2
    have hI:∀ q:Bool,(!q)=(is && !((l.take i).any (qG dl oc dc [x0,x1,x2,x3,x4,x5]) || q)):=fun q=>by
     revert h2;cases is <;> cases (l.take i).any (qG dl oc dc [x0,x1,x2,x3,x4,x5]) <;> cases q <;> simp
    have hIt:∀ q:Bool,q=true→false=(is && !((l.take i).any (qG dl oc dc [x0,x1,x2,x3,x4,x5]) || q)):=fun q hq=>by
     rw [← hI,hq];rfl
    have hIf:∀ q:Bool,q=false→true=(is && !((l.take i).any (qG dl oc dc [x0,x1,x2,x3,x4,x5]) || q)):=fun q hq=>by
     rw [← hI,hq];rfl
    obtain ⟨T2,q1,q2⟩:=hC _ g3 T1 h1
    by_cases h5:k=5
    ·cases hc:dY dl oc dc [a,k,c,d,e,f] with
     | true =>
      rw [hc] at q2
      exact ⟨(false,T2),⟨q1,hIt _ (by subst h5;simp [qG,wQ,hc])⟩,bCc (by omega) g1 hu h5 rfl q2 rfl (aO (by omega)) rfl rfl rfl⟩
     | false =>
      rw [hc] at q2
      exact ⟨(true,T2),⟨q1,hIf _ (by simp [qG,hc])⟩,bCd (by omega) g1 hu h5 rfl q2 rfl (aO (by omega)) rfl rfl rfl⟩
    ·by_cases h7:k=7
     ·cases hr:cY x1 with
      | true=>exact ⟨(true,T1),⟨h1,hIf _ (by simp [qG,wQ,hr,h5])⟩,bCi (by omega) g1 hu h5 h7 rfl hr (aO (by omega)) rfl⟩
      | false =>
       cases hc:dY dl oc dc [a,k,c,d,e,f] with
       | true =>
        rw [hc] at q2
        obtain ⟨T3,q3,q4⟩:=hU _ g3 T2 q1;cases hu2:aFs dl oc dc [a,k,c,d,e,f] with
        | true =>
         rw [hu2] at q4
         exact ⟨(false,T3),⟨q3,hIt _ (by subst h7;simp [qG,wQ,hc,hr,hu2])⟩,bCf (by omega) g1 hu h5 h7 rfl hr q2 rfl q4 rfl (aO (by omega)) rfl rfl rfl⟩
        | false =>
         rw [hu2] at q4
         exact ⟨(true,T3),⟨q3,hIf _ (by simp [qG,wQ,hu2,h5])⟩,bCg (by omega) g1 hu h5 h7 rfl hr q2 rfl q4 rfl (aO (by omega)) rfl rfl rfl⟩
       | false =>
        rw [hc] at q2
        exact ⟨(true,T2),⟨q1,hIf _ (by simp [qG,hc])⟩,bCh (by omega) g1 hu h5 h7 rfl hr q2 rfl (aO (by omega)) rfl rfl rfl⟩
     ·exact ⟨(true,T1),⟨h1,hIf _ (by simp [qG,wQ,h5,h7])⟩,bCk (by omega) g1 hu h5 h7 rfl (aO (by omega)) rfl⟩)
  (fun acc hI=>aSs (by omega)) (acc:=(is,T)) ⟨hT,by simp⟩
 obtain ⟨b,T1⟩:=acc;dsimp only at h1 h2 h3
 rw [List.take_length] at h2
 rw [h2] at h3
 exact ⟨T1,h1,h3⟩
theorem bVd(hd:bZ dc){x:List Int}(hx:x∈dc)(hC:∀ y∈bY dc (dN x),qW dl sk dc oc ov y)(hU:∀ y∈bY dc (dN x),aWd dl sk dc oc ov y):qW dl sk dc oc ov x:=fun T hT=>by
 have hn:=eX hd hx;have hk:=aJw hd hn;obtain ⟨x0,x1,x2,x3,x4,x5,rfl⟩:=len6 (hd.ud x hx);obtain ⟨T',h1,hL⟩:=bJm (x0:=x0) (x1:=x1) (x2:=x2) (x3:=x3) (x4:=x4) (x5:=x5) hd (bY dc (dN [x0,x1,x2,x3,x4,x5])) (iG hd _) (yC hd _) hC hU T hT (!uI dl [x0,x1,x2,x3,x4,x5]);have hc:(!uI dl [x0,x1,x2,x3,x4,x5] && !((bY dc (dN [x0,x1,x2,x3,x4,x5])).any (qG dl oc dc [x0,x1,x2,x3,x4,x5])))=dY dl oc dc [x0,x1,x2,x3,x4,x5]:=(bVu hd hx).symm;rw [hc] at hL
 cases hh:dS (aL T) (.int .i64 (dN [x0,x1,x2,x3,x4,x5])) with
 | true=>exact ⟨T,hT,bVk (hT.keys hd hn) hh (hT.look hd hx hh)⟩
 | false =>
  cases hh2:dS (aL T') (.int .i64 (dN [x0,x1,x2,x3,x4,x5])) with
  | true =>
   refine ⟨T',h1,?_⟩
   rcases aJx hd (n:=dN [x0,x1,x2,x3,x4,x5]) (by omega) with ⟨a1,a2⟩ | ⟨a1,a2⟩
   ·have:=bVl (x0:=x0) (hT.keys hd hn) hh hk a1 a2 hL (h1.keys hd hn) hh2
    rw [show pO (aL T') (.int .i64 x0) (blP (dY dl oc dc [x0,x1,x2,x3,x4,x5]))=aL T' from h1.again hd hx] at this
    exact this
   ·rw [a2] at hL
    have:=bVn (x0:=x0) (hT.keys hd hn) hh hk a1 hL (h1.keys hd hn) hh2;rw [show pO (aL T') (.int .i64 x0) (blP (dY dl oc dc [x0,x1,x2,x3,x4,x5]))=aL T' from h1.again hd hx] at this
    exact this
  | false =>
   refine ⟨T'++[(x0,dY dl oc dc [x0,x1,x2,x3,x4,x5])],h1.put hx hh2,?_⟩;have e1:(T'++[(x0,dY dl oc dc [x0,x1,x2,x3,x4,x5])]).length=T'.length+1:=by simp
   unfold sF dF;rw [bCm,e1]
   rcases aJx hd (n:=dN [x0,x1,x2,x3,x4,x5]) (by omega) with ⟨a1,a2⟩ | ⟨a1,a2⟩
   ·exact bVm (hT.keys hd hn) hh hk a1 a2 hL (h1.keys hd hn) hh2
   ·rw [a2] at hL
    exact bVo (hT.keys hd hn) hh hk a1 hL (h1.keys hd hn) hh2
theorem sE(hd:bZ dc){x y:List Int}(hx:x∈dc)(hy:y∈bY dc (dN x)):y∈dc∧dN x<dN y:=by
 obtain ⟨h1,h2⟩:=eP hy;exact ⟨h1,bJr hd h1 h2 (eX hd hx).1⟩
theorem aJy(hd:bZ dc)(hov:∀ n,tV ov n (oc.contains n)):∀ (n:Nat) (x:List Int),x∈dc→10000-dN x≤(n:Int)→qW dl sk dc oc ov x
 | 0,x,hx,h=>by have:=eX hd hx;omega
 | n+1,x,hx,h=>bVd hd hx (fun y hy=>by
   obtain ⟨h1,h2⟩:=sE hd hx hy;exact aJy hd hov n y h1 (by omega)) (fun y hy=>by
   obtain ⟨h1,h2⟩:=sE hd hx hy;exact bJl hd hov h1 fun z hz=>by
    obtain ⟨h3,h4⟩:=sE hd h1 hz;exact aJy hd hov n z h3 (by omega))
theorem bJn(hd:bZ dc)(hov:∀ n,tV ov n (oc.contains n)){x:List Int}(hx:x∈dc):qW dl sk dc oc ov x:=aJy hd hov 10000 x hx (by have:=eX hd hx;omega)
theorem cBq(hd:bZ dc)(hov:∀ n,tV ov n (oc.contains n)){x:List Int}(hx:x∈dc):bSp dl sk dc oc ov x:=bJk hd hx fun y hy=>bJn hd hov (eP hy).1
theorem cBr(hd:bZ dc)(hov:∀ n,tV ov n (oc.contains n)){x:List Int}(hx:x∈dc):bSq dl sk dc oc ov x:=bVc hd hx fun y hy=>bJn hd hov (eP hy).1
theorem cBs(hd:bZ dc)(hov:∀ n,tV ov n (oc.contains n)){x:List Int}(hx:x∈dc):aWd dl sk dc oc ov x:=bJl hd hov hx fun y hy=>bJn hd hov (eP hy).1
theorem aWe(hd:bZ dc)(hov:∀ n,tV ov n (oc.contains n)):∀ (n:Nat) (x:List Int),x∈dc→10000-dN x≤(n:Int)→bSr dl sk dc oc ov x
 | 0,x,hx,h=>by have:=eX hd hx;omega
 | n+1,x,hx,h=>fun T hT=>by
  obtain ⟨T',h1,h2⟩:=cBr (dl:=dl) (sk:=sk) hd hov hx T hT;rw [aWi hd hx];cases hr:aKd dl oc dc x with
  | none =>
   rw [hr] at h2
   obtain ⟨x0,x1,x2,x3,x4,x5,rfl⟩:=len6 (hd.ud x hx);exact ⟨T',h1,bVs (z0:=0) (z1:=0) (z2:=0) (z3:=0) (z4:=0) (z5:=0) h2 rfl⟩
  | some z =>
   have hz:z∈bY dc (dN x):=by
    rw [aEa hd hx] at hr
    exact tQ hr
   obtain ⟨a1,a2⟩:=sE hd hx hz;obtain ⟨T2,h3,h4⟩:=aWe hd hov n z a1 (by omega) T' h1
   rw [hr] at h2
   obtain ⟨x0,x1,x2,x3,x4,x5,rfl⟩:=len6 (hd.ud x hx);obtain ⟨a,b,c,d,e,f,rfl⟩:=len6 (hd.ud z a1);exact ⟨T2,h3,bVr h2 rfl h4⟩
theorem cBt(hd:bZ dc)(hov:∀ n,tV ov n (oc.contains n)){x:List Int}(hx:x∈dc):bSr dl sk dc oc ov x:=aWe hd hov 10000 x hx (by have:=eX hd hx;omega)
theorem aJz(n:Int):tV dR n (([]:List Int).contains n):=fun base=>FV.argwk (oG [] n (by simp)) (by kernel_rfl)
theorem aDw{l:List Int}(hl:l.length≤1000)(n:Int):tV (aF l) n (l.contains n):=fun base=>oG l n hl
end
end
end KV
end Go.Proofs
