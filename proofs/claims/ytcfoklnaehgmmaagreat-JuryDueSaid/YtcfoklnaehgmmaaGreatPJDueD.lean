/- Parts of the proof of JDue: laws of walks, contracts of functions, plain models. No condition. -/
import Derived.Sort.LoopGhostIn
import Derived.Lib.OwnBridge
import Derived.Shelf.Slices.Clone
import Derived.Shelf.Small.Bits
import Derived.Shelf.Small.Wraps
import Derived.Shelf.Strconv.Itoa0
import Derived.Shelf.Sort.Plain
import Derived.Shelf.Slices.Turned
import Derived.Ground.Names2Prog
import Derived.Shelf.Slices.CompactI
import Derived.Shelf.Slices.SearchI
import Derived.Shelf.Slices.Cells
import Derived.Shelf.Slices.In.SortNone
import Derived.Ground.SlgnProg
import Derived.Shelf.SlicesE.Clone
import Derived.Test.YtcfoklnaehgmmaaGreatProg
import Derived.Sort.OwnSortedInts
import Derived.OneCell
import Derived.Test.YtcfoklnaehgmmaaGreatPJDueC
set_option linter.unusedVariables false
set_option linter.unusedSimpArgs false
set_option maxRecDepth 100000
namespace Go.Proofs
namespace KV
open Tryz
section
section
variable {dc:Lqq}
theorem aIc(h:bS dc){n:Int}(hn:1≤n∧n≤9999):bV .i64 (abE dc) (.int .i64 n):=by
 have ha:=aQz h;refine ⟨fun e he => ?_,mL (by omega),?_⟩
 ·obtain ⟨p,hp,rfl⟩:=dH.1 he
  obtain ⟨q1,q2,q3⟩:=ha.mem p hp;cases hx:p.2 with
  | nil=>exact absurd hx q2
  | cons x r =>
   have:x∈dc.reverse.filter fun x=>dAb x == p.1:=by rw [← q3,hx];exact jI ..
   obtain ⟨h1,h2⟩:=aBd.1 this;have:=kX h x (aBc.1 h1);have h2:dAb x=p.1:=by simpa using h2
   exact mL (by omega)
 ·have:(abE dc).map (fun e=>gS e.1)=(abM dc).map (·.1):=by
   unfold abE;rw [sE];rfl
  rw [this];exact ha.nd
theorem aId(h:bS dc){n:Int}(hn:0<n):(cV (abE dc) (.int .i64 n)=true∧eL (abE dc) (.int .i64 n)=some (.sl (bJ dc n).length ((bJ dc n).flatten.map aA)))∨(cV (abE dc) (.int .i64 n)=false∧bJ dc n=[]):=by
 have ha:=aQz h;have e1:cV (abE dc) (.int .i64 n)=(abM dc).any fun e=>e.1 == n:=by
  unfold cV abE;rw [List.any_map]
  congr 1
 have e2:eL (abE dc) (.int .i64 n)=((abM dc).find? fun e=>e.1 == n).map fun e => .sl e.2.length (e.2.flatten.map aA):=by
  unfold eL abE;generalize abM dc=L
  induction L with
  | nil=>rfl
  | cons p L ih =>
   rw [gT,List.find?_cons,List.find?_cons];have e:(decide (gS (((Value.int IntKind.i64 p.1),PV.sl p.2.length (p.2.flatten.map aA)):Value × PV).1=gS (Value.int IntKind.i64 n)))=(p.1 == n):=by
    show decide (p.1=n)=(p.1 == n);rw [Bool.eq_iff_iff];simp
   rw [e];cases p.1 == n with
   | true=>rfl
   | false=>exact ih
 rw [e1,e2];cases hf:(abM dc).find? fun e=>e.1 == n with
 | some e =>
  have h1:=uY hf;have h2:e.1=n:=by simpa using aOj hf
  obtain ⟨q1,q2,q3⟩:=ha.mem e h1;refine .inl ⟨List.any_eq_true.2 ⟨e,h1,by simpa using h2⟩,?_⟩
  have:e.2=bJ dc n:=by rw [q3,h2];rfl
  rw [Option.map_some,this]
 | none =>
  refine .inr ⟨?_,?_⟩
  ·rw [List.any_eq_false]
   intro e he;exact aBb.1 hf e he
  ·rw [← bGy h hn]
   unfold yD;rw [hf]
theorem gA(h:bS dc)(n:Int):uni 6 (bJ dc n):=fun y hy=>h.ud y (dS hy).1
theorem wU(h:bS dc)(n:Int):(bJ dc n).length≤1000:=by
 have:=aBa (fun x=>dAb x == n) dc.reverse
 have h2:=h.len;rw [List.length_reverse] at this
 unfold bJ;omega
theorem aUb{α:Type}{p:α→Bool}{l:List α}{i:Nat}{x:α}(hi:l[i]? = some x)(hp:p x=true)(hj:∀ j y,j<i→l[j]? = some y→p y=false):l.find? p=some x:=by
 obtain ⟨h1,h2⟩:=A2.1 hi;rw [List.find?_eq_some_iff_getElem];exact ⟨hp,i,h1,h2,fun j h=>by
  rw [hj j l[j] h (Ap (by omega))];rfl⟩
end
def Ga:List Int:=[0,0,0,0,0,0]
section
variable (dl:Int) (sk dc:Lqq) (oc:List Int) (ov:PV)
def oX(x:List Int):Prop:=∀ T,bY dl oc dc T→∃ T',bY dl oc dc T'∧qZ dl sk dc ov x (cZ dl oc dc x) T T'
def bOw(g:Nat)(q:List Int→Bool)(x:List Int):Prop:=∀ T,bY dl oc dc T→∃ T',bY dl oc dc T'∧bVg g dl sk dc ov x (((bJ dc (dN x)).find? fun y=>q y && cZ dl oc dc y).getD Ga) ((bJ dc (dN x)).find? fun y=>q y && cZ dl oc dc y).isSome T T'
def bOx(x:List Int):Prop:=∀ T,bY dl oc dc T→∃ T',bY dl oc dc T'∧aLn dl sk dc ov x ((tW dl oc dc x).getD Ga) (tW dl oc dc x).isSome T T'
def bOy(x:List Int):Prop:=∀ T,bY dl oc dc T→∃ T',bY dl oc dc T'∧bVh dl sk dc ov x ((aIj dl oc dc x).getD Ga) (aIj dl oc dc x).isSome T T'
def aUc(x:List Int):Prop:=∀ T,bY dl oc dc T→∃ T',bY dl oc dc T'∧bMx dl sk dc ov x (aDp dl oc dc x) T T'
def bOz(x:List Int):Prop:=∀ T,bY dl oc dc T→∃ T',bY dl oc dc T'∧yT dl sk dc ov x (nR dl oc dc x) T T'
end
section
variable {dl:Int} {sk dc:Lqq} {oc:List Int} {ov:PV}
theorem bBb(l:Lqq)(hu:uni 6 l)(hl:l.length≤1000)(hC:∀ y∈l,oX dl sk dc oc ov y)(T:Lqb)(hT:bY dl oc dc T) :
  (∃ i T' y,l[i]? = some y∧(cI (dK y) && cZ dl oc dc y)=true∧(∀ j z,j<i→l[j]? = some z→(cI (dK z) && cZ dl oc dc z)=false)∧bY dl oc dc T'∧aF Tp 7 (sub (cd Tryz.f99) cw) (dD dl sk dc ov 0 l l.length (aK T) T.length 0 0 0 0 0 0) .ret (cC (dD dl sk dc ov i l l.length (aK T') T'.length (y.getD 0 0) (y.getD 1 0) (y.getD 2 0) (y.getD 3 0) (y.getD 4 0) (y.getD 5 0)) [(7,.kb true)])) ∨
  ((l.find? fun y=>cI (dK y) && cZ dl oc dc y)=none∧∃ T',bY dl oc dc T'∧aF Tp 7 (sub (cd Tryz.f99) cw) (dD dl sk dc ov 0 l l.length (aK T) T.length 0 0 0 0 0 0) (.exit 0) (dD dl sk dc ov l.length l l.length (aK T') T'.length 0 0 0 0 0 0)):=by
 have hx:∀ i,i<l.length→∃ a b c d e f,l[i]? = some [a,b,c,d,e,f]∧l.getD i []=[a,b,c,d,e,f]∧[a,b,c,d,e,f]∈l:=fun i hi=>by
  obtain ⟨a,b,c,d,e,f,h⟩:=Az (hu _ (eT hi));have h1:l[i]? = some [a,b,c,d,e,f]:=by rw [Ap hi,h]
  exact ⟨a,b,c,d,e,f,h1,by rw [Bj,h1];rfl,Bf h1⟩
 rcases aF.exF (P:=Tp) (k:=7) (b:=sub (cd Tryz.f99) cw) (e1 := .ret) (e2 := .exit 0) (fun i T=>dD dl sk dc ov i l l.length (aK T) T.length 0 0 0 0 0 0)
  (fun i T=>cC (dD dl sk dc ov i l l.length (aK T) T.length ((l.getD i []).getD 0 0) ((l.getD i []).getD 1 0) ((l.getD i []).getD 2 0) ((l.getD i []).getD 3 0) ((l.getD i []).getD 4 0) ((l.getD i []).getD 5 0)) [(7,.kb true)])
  (fun T=>dD dl sk dc ov l.length l l.length (aK T) T.length 0 0 0 0 0 0) (bY dl oc dc) (by simp) (by simp) (fun i=>cI (dK (l.getD i [])) && cZ dl oc dc (l.getD i [])) l.length
  (fun i T1 hi h1 hp=>by
   obtain ⟨a,b,c,d,e,f,g1,g2,g3⟩:=hx i hi;rw [g2] at hp
   cases hq:cI b with
   | false=>exact ⟨T1,h1,aQq (by omega) g1 hu hq (aM (by omega)) rfl⟩
   | true =>
    have hp:(cI b && cZ dl oc dc [a,b,c,d,e,f])=false:=hp;rw [hq,gU] at hp
    obtain ⟨T2,h2,c2⟩:=hC _ g3 T1 h1;rw [hp] at c2
    exact ⟨T2,h2,aQp (by omega) g1 hu hq c2 rfl (aM (by omega)) rfl rfl rfl⟩)
  (fun i T1 hi h1 hp=>by
   obtain ⟨a,b,c,d,e,f,g1,g2,g3⟩:=hx i hi;rw [g2] at hp ⊢
   rw [Bg] at hp
   obtain ⟨T2,h2,c2⟩:=hC _ g3 T1 h1;rw [hp.2] at c2
   exact ⟨T2,h2,aQo (by omega) g1 hu hp.1 c2 rfl rfl rfl⟩)
  (fun T1 h1=>aQr (by omega)) hT with ⟨i,T',h1,h2,h3,h4,h5⟩ | ⟨h1,T',h2,h3⟩
 ·obtain ⟨a,b,c,d,e,f,g1,g2,g3⟩:=hx i h1
  rw [g2] at h2 h5
  refine .inl ⟨i,T',_,g1,h2,fun j z hj hz => ?_,h4,h5⟩
  have:=h3 j hj;rw [Bj,hz] at this
  exact this
 ·refine .inr ⟨?_,T',h2,h3⟩
  rw [aBb];intro y hy;obtain ⟨i,hi,rfl⟩:=List.mem_iff_getElem.1 hy;have:=h1 i hi;rw [Bj,Ap hi] at this
  simpa using this
theorem bMv(hd:bS dc){x:List Int}(hx:x∈dc)(hC:∀ y∈bJ dc (dN x),oX dl sk dc oc ov y):bOw dl sk dc oc ov 101 (fun y=>cI (dK y)) x:=fun T hT=>by
 have hn:=eR hd hx;have hk:=aIc hd hn;have hL:=bBb (bJ dc (dN x)) (gA hd _) (wU hd _) hC T hT;obtain ⟨x0,x1,x2,x3,x4,x5,rfl⟩:=Az (hd.ud x hx)
 rcases aId hd (n:=dN [x0,x1,x2,x3,x4,x5]) (by omega) with ⟨h1,h2⟩ | ⟨h1,h2⟩
 ·rcases hL with ⟨i,T',y,q1,q2,q3,q4,q5⟩ | ⟨q1,T',q2,q3⟩
  ·have hf:=aUb (p:=fun y=>cI (dK y) && cZ dl oc dc y) q1 q2 q3
   rw [hf];obtain ⟨a,b,c,d,e,f,rfl⟩:=Az (gA hd _ _ (Bf q1));exact ⟨T',q4,bNc hk h1 h2 q5⟩
  ·rw [q1]
   exact ⟨T',q2,bNb hk h1 h2 q3⟩
 ·rw [h2] at hL ⊢
  rcases hL with ⟨i,T',y,q1,q2,q3,q4,q5⟩ | ⟨q1,T',q2,q3⟩
  ·simp at q1
  ·exact ⟨T',q2,bNd hk h1 q3⟩
theorem bBc(l:Lqq)(hu:uni 6 l)(hl:l.length≤1000)(hC:∀ y∈l,oX dl sk dc oc ov y)(T:Lqb)(hT:bY dl oc dc T) :
  (∃ i T' y,l[i]? = some y∧(dK y == 6 && cZ dl oc dc y)=true∧(∀ j z,j<i→l[j]? = some z→(dK z == 6 && cZ dl oc dc z)=false)∧bY dl oc dc T'∧aF Tp 7 (sub (cd Tryz.f99) cw) (dE dl sk dc ov 0 l l.length (aK T) T.length 0 0 0 0 0 0) .ret (cC (dE dl sk dc ov i l l.length (aK T') T'.length (y.getD 0 0) (y.getD 1 0) (y.getD 2 0) (y.getD 3 0) (y.getD 4 0) (y.getD 5 0)) [(7,.kb true)])) ∨
  ((l.find? fun y=>dK y == 6 && cZ dl oc dc y)=none∧∃ T',bY dl oc dc T'∧aF Tp 7 (sub (cd Tryz.f99) cw) (dE dl sk dc ov 0 l l.length (aK T) T.length 0 0 0 0 0 0) (.exit 0) (dE dl sk dc ov l.length l l.length (aK T') T'.length 0 0 0 0 0 0)):=by
 have hx:∀ i,i<l.length→∃ a b c d e f,l[i]? = some [a,b,c,d,e,f]∧l.getD i []=[a,b,c,d,e,f]∧[a,b,c,d,e,f]∈l:=fun i hi=>by
  obtain ⟨a,b,c,d,e,f,h⟩:=Az (hu _ (eT hi));have h1:l[i]? = some [a,b,c,d,e,f]:=by rw [Ap hi,h]
  exact ⟨a,b,c,d,e,f,h1,by rw [Bj,h1];rfl,Bf h1⟩
 rcases aF.exF (P:=Tp) (k:=7) (b:=sub (cd Tryz.f99) cw) (e1 := .ret) (e2 := .exit 0) (fun i T=>dE dl sk dc ov i l l.length (aK T) T.length 0 0 0 0 0 0)
  (fun i T=>cC (dE dl sk dc ov i l l.length (aK T) T.length ((l.getD i []).getD 0 0) ((l.getD i []).getD 1 0) ((l.getD i []).getD 2 0) ((l.getD i []).getD 3 0) ((l.getD i []).getD 4 0) ((l.getD i []).getD 5 0)) [(7,.kb true)])
  (fun T=>dE dl sk dc ov l.length l l.length (aK T) T.length 0 0 0 0 0 0) (bY dl oc dc) (by simp) (by simp) (fun i=>dK (l.getD i []) == 6 && cZ dl oc dc (l.getD i [])) l.length
  (fun i T1 hi h1 hp=>by
   obtain ⟨a,b,c,d,e,f,g1,g2,g3⟩:=hx i hi;rw [g2] at hp
   cases hq:(b == 6) with
   | false=>exact ⟨T1,h1,aQu (by omega) g1 hu hq (aM (by omega)) rfl⟩
   | true =>
    have hp:((b == 6) && cZ dl oc dc [a,b,c,d,e,f])=false:=hp;rw [hq,gU] at hp
    obtain ⟨T2,h2,c2⟩:=hC _ g3 T1 h1;rw [hp] at c2
    exact ⟨T2,h2,aQt (by omega) g1 hu hq c2 rfl (aM (by omega)) rfl rfl rfl⟩)
  (fun i T1 hi h1 hp=>by
   obtain ⟨a,b,c,d,e,f,g1,g2,g3⟩:=hx i hi;rw [g2] at hp ⊢
   rw [Bg] at hp
   obtain ⟨T2,h2,c2⟩:=hC _ g3 T1 h1;rw [hp.2] at c2
   exact ⟨T2,h2,aQs (by omega) g1 hu hp.1 c2 rfl rfl rfl⟩)
  (fun T1 h1=>aQv (by omega)) hT with ⟨i,T',h1,h2,h3,h4,h5⟩ | ⟨h1,T',h2,h3⟩
 ·obtain ⟨a,b,c,d,e,f,g1,g2,g3⟩:=hx i h1
  rw [g2] at h2 h5
  refine .inl ⟨i,T',_,g1,h2,fun j z hj hz => ?_,h4,h5⟩
  have:=h3 j hj;rw [Bj,hz] at this
  exact this
 ·refine .inr ⟨?_,T',h2,h3⟩
  rw [aBb];intro y hy;obtain ⟨i,hi,rfl⟩:=List.mem_iff_getElem.1 hy;have:=h1 i hi;rw [Bj,Ap hi] at this
  simpa using this
theorem bMw(hd:bS dc){x:List Int}(hx:x∈dc)(hC:∀ y∈bJ dc (dN x),oX dl sk dc oc ov y):bOw dl sk dc oc ov 105 (fun y=>dK y == 6) x:=fun T hT=>by
 have hn:=eR hd hx;have hk:=aIc hd hn;have hL:=bBc (bJ dc (dN x)) (gA hd _) (wU hd _) hC T hT;obtain ⟨x0,x1,x2,x3,x4,x5,rfl⟩:=Az (hd.ud x hx)
 rcases aId hd (n:=dN [x0,x1,x2,x3,x4,x5]) (by omega) with ⟨h1,h2⟩ | ⟨h1,h2⟩
 ·rcases hL with ⟨i,T',y,q1,q2,q3,q4,q5⟩ | ⟨q1,T',q2,q3⟩
  ·have hf:=aUb (p:=fun y=>dK y == 6 && cZ dl oc dc y) q1 q2 q3
   rw [hf];obtain ⟨a,b,c,d,e,f,rfl⟩:=Az (gA hd _ _ (Bf q1));exact ⟨T',q4,bNf hk h1 h2 q5⟩
  ·rw [q1]
   exact ⟨T',q2,bNe hk h1 h2 q3⟩
 ·rw [h2] at hL ⊢
  rcases hL with ⟨i,T',y,q1,q2,q3,q4,q5⟩ | ⟨q1,T',q2,q3⟩
  ·simp at q1
  ·exact ⟨T',q2,bNg hk h1 q3⟩

theorem bGo(hd:bS dc){x:List Int}(hx:x∈dc)(hC:∀ y∈bJ dc (dN x),oX dl sk dc oc ov y):bOx dl sk dc oc ov x:=fun T hT=>by
 obtain ⟨T',h1,h2⟩:=bMv hd hx hC T hT;rw [← aCd hd hx] at h2
 obtain ⟨x0,x1,x2,x3,x4,x5,rfl⟩:=Az (hd.ud x hx);have hz:∀ z,tW dl oc dc [x0,x1,x2,x3,x4,x5]=some z→z.length=6:=fun z hz=>by
  rw [aCd hd hx] at hz
  exact gA hd _ z (uY hz)
 cases hr:tW dl oc dc [x0,x1,x2,x3,x4,x5] with
 | none =>
  rw [hr] at h2
  exact ⟨T',h1,bGs (z0:=0) (z1:=0) (z2:=0) (z3:=0) (z4:=0) (z5:=0) h2⟩
 | some z =>
  obtain ⟨a,b,c,d,e,f,rfl⟩:=Az (hz z hr);rw [hr] at h2
  exact ⟨T',h1,bGs h2⟩
theorem bVe(hd:bS dc){x:List Int}(hx:x∈dc)(hC:∀ y∈bJ dc (dN x),oX dl sk dc oc ov y):bOy dl sk dc oc ov x:=fun T hT=>by
 obtain ⟨T',h1,h2⟩:=bMw hd hx hC T hT;rw [← aCe hd hx] at h2
 obtain ⟨x0,x1,x2,x3,x4,x5,rfl⟩:=Az (hd.ud x hx);have hz:∀ z,aIj dl oc dc [x0,x1,x2,x3,x4,x5]=some z→z.length=6:=fun z hz=>by
  rw [aCe hd hx] at hz
  exact gA hd _ z (uY hz)
 cases hr:aIj dl oc dc [x0,x1,x2,x3,x4,x5] with
 | none =>
  rw [hr] at h2
  exact ⟨T',h1,bGt (z0:=0) (z1:=0) (z2:=0) (z3:=0) (z4:=0) (z5:=0) h2⟩
 | some z =>
  obtain ⟨a,b,c,d,e,f,rfl⟩:=Az (hz z hr);rw [hr] at h2
  exact ⟨T',h1,bGt h2⟩
theorem bGp(hd:bS dc)(hov:∀ n,sG ov n (oc.contains n)){x:List Int}(hx:x∈dc)(hC:∀ y∈bJ dc (dN x),oX dl sk dc oc ov y):aUc dl sk dc oc ov x:=fun T hT=>by
 obtain ⟨T',h1,h2⟩:=bGo hd hx hC T hT;rw [bVx hd hx];obtain ⟨x0,x1,x2,x3,x4,x5,rfl⟩:=Az (hd.ud x hx);have hz:∀ z,tW dl oc dc [x0,x1,x2,x3,x4,x5]=some z→z.length=6:=fun z hz=>by
  rw [aCd hd hx] at hz
  exact gA hd _ z (uY hz)
 cases hr:tW dl oc dc [x0,x1,x2,x3,x4,x5] with
 | none =>
  rw [hr] at h2
  exact ⟨T',h1,bVs (z0:=0) (z1:=0) (z2:=0) (z3:=0) (z4:=0) (z5:=0) h2 rfl (hov _)⟩
 | some z =>
  obtain ⟨a,b,c,d,e,f,rfl⟩:=Az (hz z hr);rw [hr] at h2
  exact ⟨T',h1,bVr h2 rfl rfl⟩
abbrev oO(dl:Int)(oc:List Int)(dc:Lqq)(x y:List Int):Bool:=vK x y && cZ dl oc dc y && (dK y == 5 || aDp dl oc dc y)
theorem bGq{x0 x1 x2 x3 x4 x5:Int}(hd:bS dc)(l:Lqq)(hu:uni 6 l)(hl:l.length≤1000)(hC:∀ y∈l,oX dl sk dc oc ov y)(hU:∀ y∈l,aUc dl sk dc oc ov y)(T:Lqb)(hT:bY dl oc dc T)(is:Bool) :
  ∃ T',bY dl oc dc T'∧aF Tp 7 (sub (cd Tryz.f100) cf) (cB dl sk dc ov x0 x1 x2 x3 x4 x5 is 0 l l.length (aK T) T.length) (.exit 0) (cB dl sk dc ov x0 x1 x2 x3 x4 x5 (is && !(l.any (oO dl oc dc [x0,x1,x2,x3,x4,x5]))) l.length l l.length (aK T') T'.length):=by
 have hx:∀ i,i<l.length→∃ a b c d e f,l[i]? = some [a,b,c,d,e,f]∧[a,b,c,d,e,f]∈l:=fun i hi=>by
  obtain ⟨a,b,c,d,e,f,h⟩:=Az (hu _ (eT hi));have h1:l[i]? = some [a,b,c,d,e,f]:=by rw [Ap hi,h]
  exact ⟨a,b,c,d,e,f,h1,Bf h1⟩
 have et:∀ i y,l[i]? = some y→(l.take (i+1)).any (oO dl oc dc [x0,x1,x2,x3,x4,x5])=((l.take i).any (oO dl oc dc [x0,x1,x2,x3,x4,x5]) || oO dl oc dc [x0,x1,x2,x3,x4,x5] y):=fun i y h=>by
  rw [List.take_add_one,h,List.any_append];simp
 obtain ⟨acc, ⟨h1,h2⟩,h3⟩:=aF.ex (P:=Tp) (k:=7) (b:=sub (cd Tryz.f100) cf) (e := .exit 0) (fun i (a:Bool × Lqb)=>cB dl sk dc ov x0 x1 x2 x3 x4 x5 a.1 i l l.length (aK a.2) a.2.length)
  (fun a=>cB dl sk dc ov x0 x1 x2 x3 x4 x5 a.1 l.length l l.length (aK a.2) a.2.length) (fun i a=>bY dl oc dc a.2∧a.1=(is && !((l.take i).any (oO dl oc dc [x0,x1,x2,x3,x4,x5])))) (by simp) l.length
  (fun i acc hi hI=>by
   obtain ⟨b,T1⟩:=acc;obtain ⟨h1,h2⟩:=hI;dsimp only at h1 h2
   obtain ⟨a,k,c,d,e,f,g1,g3⟩:=hx i hi;rw [et i _ g1];cases hb:b with
   | false =>
    rw [hb] at h2
    have hI:∀ q:Bool,false=(is && !((l.take i).any (oO dl oc dc [x0,x1,x2,x3,x4,x5]) || q)):=fun q=>by
     revert h2;cases is <;> cases (l.take i).any (oO dl oc dc [x0,x1,x2,x3,x4,x5]) <;> cases q <;> simp
    by_cases h5:k=5
    ·exact ⟨(false,T1),⟨h1,hI _⟩,bBf (by omega) g1 hu h5 rfl (aM (by omega)) rfl⟩
    ·by_cases h7:k=7
     ·exact ⟨(false,T1),⟨h1,hI _⟩,bBk (by omega) g1 hu h5 h7 rfl (aM (by omega)) rfl⟩
     ·exact ⟨(false,T1),⟨h1,hI _⟩,bBm (by omega) g1 hu h5 h7 rfl (aM (by omega)) rfl⟩
   | true =>
    rw [hb] at h2
    have hI:∀ q:Bool,(!q)=(is && !((l.take i).any (oO dl oc dc [x0,x1,x2,x3,x4,x5]) || q)):=fun q=>by
     revert h2;cases is <;> cases (l.take i).any (oO dl oc dc [x0,x1,x2,x3,x4,x5]) <;> cases q <;> simp
    have hIt:∀ q:Bool,q=true→false=(is && !((l.take i).any (oO dl oc dc [x0,x1,x2,x3,x4,x5]) || q)):=fun q hq=>by
     rw [← hI,hq];rfl
    have hIf:∀ q:Bool,q=false→true=(is && !((l.take i).any (oO dl oc dc [x0,x1,x2,x3,x4,x5]) || q)):=fun q hq=>by
     rw [← hI,hq];rfl
    obtain ⟨T2,q1,q2⟩:=hC _ g3 T1 h1
    by_cases h5:k=5
    ·cases hc:cZ dl oc dc [a,k,c,d,e,f] with
     | true =>
      rw [hc] at q2
      exact ⟨(false,T2),⟨q1,hIt _ (by subst h5;simp [oO,vK,hc])⟩,bBd (by omega) g1 hu h5 rfl q2 rfl (aM (by omega)) rfl rfl rfl⟩
     | false =>
      rw [hc] at q2
      exact ⟨(true,T2),⟨q1,hIf _ (by simp [oO,hc])⟩,bBe (by omega) g1 hu h5 rfl q2 rfl (aM (by omega)) rfl rfl rfl⟩
    ·by_cases h7:k=7
     ·cases hr:cI x1 with
      | true=>exact ⟨(true,T1),⟨h1,hIf _ (by simp [oO,vK,hr,h5])⟩,bBj (by omega) g1 hu h5 h7 rfl hr (aM (by omega)) rfl⟩
      | false =>
       cases hc:cZ dl oc dc [a,k,c,d,e,f] with
       | true =>
        rw [hc] at q2
        obtain ⟨T3,q3,q4⟩:=hU _ g3 T2 q1;cases Oh:aDp dl oc dc [a,k,c,d,e,f] with
        | true =>
         rw [Oh] at q4
         exact ⟨(false,T3),⟨q3,hIt _ (by subst h7;simp [oO,vK,hc,hr,Oh])⟩,bBg (by omega) g1 hu h5 h7 rfl hr q2 rfl q4 rfl (aM (by omega)) rfl rfl rfl⟩
        | false =>
         rw [Oh] at q4
         exact ⟨(true,T3),⟨q3,hIf _ (by simp [oO,vK,Oh,h5])⟩,bBh (by omega) g1 hu h5 h7 rfl hr q2 rfl q4 rfl (aM (by omega)) rfl rfl rfl⟩
       | false =>
        rw [hc] at q2
        exact ⟨(true,T2),⟨q1,hIf _ (by simp [oO,hc])⟩,bBi (by omega) g1 hu h5 h7 rfl hr q2 rfl (aM (by omega)) rfl rfl rfl⟩
     ·exact ⟨(true,T1),⟨h1,hIf _ (by simp [oO,vK,h5,h7])⟩,bBl (by omega) g1 hu h5 h7 rfl (aM (by omega)) rfl⟩)
  (fun acc hI=>aQw (by omega)) (acc:=(is,T)) ⟨hT,by simp⟩
 obtain ⟨b,T1⟩:=acc;dsimp only at h1 h2 h3
 rw [List.take_length] at h2
 rw [h2] at h3
 exact ⟨T1,h1,h3⟩
theorem bVf(hd:bS dc){x:List Int}(hx:x∈dc)(hC:∀ y∈bJ dc (dN x),oX dl sk dc oc ov y)(hU:∀ y∈bJ dc (dN x),aUc dl sk dc oc ov y):oX dl sk dc oc ov x:=fun T hT=>by
 have hn:=eR hd hx;have hk:=aIc hd hn;obtain ⟨x0,x1,x2,x3,x4,x5,rfl⟩:=Az (hd.ud x hx);obtain ⟨T',h1,hL⟩:=bGq (x0:=x0) (x1:=x1) (x2:=x2) (x3:=x3) (x4:=x4) (x5:=x5) hd (bJ dc (dN [x0,x1,x2,x3,x4,x5])) (gA hd _) (wU hd _) hC hU T hT (!oY dl [x0,x1,x2,x3,x4,x5]);have hc:(!oY dl [x0,x1,x2,x3,x4,x5] && !((bJ dc (dN [x0,x1,x2,x3,x4,x5])).any (oO dl oc dc [x0,x1,x2,x3,x4,x5])))=cZ dl oc dc [x0,x1,x2,x3,x4,x5]:=(bVw hd hx).symm;rw [hc] at hL
 cases hh:cV (aK T) (.int .i64 (dN [x0,x1,x2,x3,x4,x5])) with
 | true=>exact ⟨T,hT,bVm (hT.keys hd hn) hh (hT.look hd hx hh)⟩
 | false =>
  cases Nl:cV (aK T') (.int .i64 (dN [x0,x1,x2,x3,x4,x5])) with
  | true =>
   refine ⟨T',h1,?_⟩
   rcases aId hd (n:=dN [x0,x1,x2,x3,x4,x5]) (by omega) with ⟨a1,a2⟩ | ⟨a1,a2⟩
   ·have:=bVn (x0:=x0) (hT.keys hd hn) hh hk a1 a2 hL (h1.keys hd hn) Nl
    rw [show nW (aK T') (.int .i64 x0) (blP (cZ dl oc dc [x0,x1,x2,x3,x4,x5]))=aK T' from h1.again hd hx] at this
    exact this
   ·rw [a2] at hL
    have:=bVp (x0:=x0) (hT.keys hd hn) hh hk a1 hL (h1.keys hd hn) Nl;rw [show nW (aK T') (.int .i64 x0) (blP (cZ dl oc dc [x0,x1,x2,x3,x4,x5]))=aK T' from h1.again hd hx] at this
    exact this
  | false =>
   refine ⟨T'++[(x0,cZ dl oc dc [x0,x1,x2,x3,x4,x5])],h1.put hx Nl,?_⟩;have e1:(T'++[(x0,cZ dl oc dc [x0,x1,x2,x3,x4,x5])]).length=T'.length+1:=by simp
   unfold qZ cL;rw [bBn,e1]
   rcases aId hd (n:=dN [x0,x1,x2,x3,x4,x5]) (by omega) with ⟨a1,a2⟩ | ⟨a1,a2⟩
   ·exact bVo (hT.keys hd hn) hh hk a1 a2 hL (h1.keys hd hn) Nl
   ·rw [a2] at hL
    exact bVq (hT.keys hd hn) hh hk a1 hL (h1.keys hd hn) Nl
theorem qX(hd:bS dc){x y:List Int}(hx:x∈dc)(hy:y∈bJ dc (dN x)):y∈dc∧dN x<dN y:=by
 obtain ⟨h1,h2⟩:=dS hy;exact ⟨h1,bGv hd h1 h2 (eR hd hx).1⟩
theorem aIe(hd:bS dc)(hov:∀ n,sG ov n (oc.contains n)):∀ (n:Nat) (x:List Int),x∈dc→10000-dN x≤(n:Int)→oX dl sk dc oc ov x
 | 0,x,hx,h=>by have:=eR hd hx;omega
 | n+1,x,hx,h=>bVf hd hx (fun y hy=>by
   obtain ⟨h1,h2⟩:=qX hd hx hy;exact aIe hd hov n y h1 (by omega)) (fun y hy=>by
   obtain ⟨h1,h2⟩:=qX hd hx hy;exact bGp hd hov h1 fun z hz=>by
    obtain ⟨h3,h4⟩:=qX hd h1 hz;exact aIe hd hov n z h3 (by omega))
theorem bGr(hd:bS dc)(hov:∀ n,sG ov n (oc.contains n)){x:List Int}(hx:x∈dc):oX dl sk dc oc ov x:=aIe hd hov 10000 x hx (by have:=eR hd hx;omega)
theorem bYf(hd:bS dc)(hov:∀ n,sG ov n (oc.contains n)){x:List Int}(hx:x∈dc):bOx dl sk dc oc ov x:=bGo hd hx fun y hy=>bGr hd hov (dS hy).1
theorem bYg(hd:bS dc)(hov:∀ n,sG ov n (oc.contains n)){x:List Int}(hx:x∈dc):bOy dl sk dc oc ov x:=bVe hd hx fun y hy=>bGr hd hov (dS hy).1
theorem bYh(hd:bS dc)(hov:∀ n,sG ov n (oc.contains n)){x:List Int}(hx:x∈dc):aUc dl sk dc oc ov x:=bGp hd hov hx fun y hy=>bGr hd hov (dS hy).1
theorem aUd(hd:bS dc)(hov:∀ n,sG ov n (oc.contains n)):∀ (n:Nat) (x:List Int),x∈dc→10000-dN x≤(n:Int)→bOz dl sk dc oc ov x
 | 0,x,hx,h=>by have:=eR hd hx;omega
 | n+1,x,hx,h=>fun T hT=>by
  obtain ⟨T',h1,h2⟩:=bYg (dl:=dl) (sk:=sk) hd hov hx T hT;rw [aUh hd hx];cases hr:aIj dl oc dc x with
  | none =>
   rw [hr] at h2
   obtain ⟨x0,x1,x2,x3,x4,x5,rfl⟩:=Az (hd.ud x hx);exact ⟨T',h1,bVu (z0:=0) (z1:=0) (z2:=0) (z3:=0) (z4:=0) (z5:=0) h2 rfl⟩
  | some z =>
   have hz:z∈bJ dc (dN x):=by
    rw [aCe hd hx] at hr
    exact uY hr
   obtain ⟨a1,a2⟩:=qX hd hx hz;obtain ⟨T2,h3,h4⟩:=aUd hd hov n z a1 (by omega) T' h1
   rw [hr] at h2
   obtain ⟨x0,x1,x2,x3,x4,x5,rfl⟩:=Az (hd.ud x hx);obtain ⟨a,b,c,d,e,f,rfl⟩:=Az (hd.ud z a1);exact ⟨T2,h3,bVt h2 rfl h4⟩
theorem bYi(hd:bS dc)(hov:∀ n,sG ov n (oc.contains n)){x:List Int}(hx:x∈dc):bOz dl sk dc oc ov x:=aUd hd hov 10000 x hx (by have:=eR hd hx;omega)
theorem aIf(n:Int):sG dY n (([]:List Int).contains n):=fun base=>FV.argwk (lE [] n (by simp)) (by kernel_rfl)
theorem aCa{l:List Int}(hl:l.length≤1000)(n:Int):sG (aG l) n (l.contains n):=fun base=>lE l n hl
end
end
section
variable {P:Program} {T:TT} {E:Env} {C C0:Cx} {M M0 M1:Mem} {w w0:World}

def bkN(all:List Nat)(j:Nat):Option Nat:=all[j]?
def sJ(Fg:List Nat):List Nat→Mem→Option Upd
 | i::r,some o::m=>match mpO (bkN Fg) o with
  | some o'=>(sJ Fg r m).map ((i,o') :: ·)
  | none=>none
 | [],[]=>some []
 | _,_=>none

theorem aFs{Fg:List Nat}:∀ {ids:List Nat} {m:Mem} {L:Upd},sJ Fg ids m=some L→ids.Nodup →
  m.length=ids.length ∧
  ∀ (N:Mem),(∀ (p i:Nat) (o':AO),ids[p]? = some i→(bG (upds N L) i=some o'↔∃ o,m[p]? = some (some o)∧mpO (bkN Fg) o=some o')) ∧
   ∀ j,j∉ids→bG (upds N L) j=bG N j
 | [],[],L,h,_=>by
  unfold sJ at h;cases h
  refine ⟨rfl,fun N=>⟨fun p i o' hp=>by simp at hp,fun _ _=>rfl⟩⟩
 | i::r,some o::m,L,h,hd=>by
  unfold sJ at h
  split at h
  ·rename_i o' ho
   simp only [jV] at h
   obtain ⟨L',Jo,rfl⟩:=h;obtain ⟨I2,I1⟩:=List.nodup_cons.1 hd;obtain ⟨q1,q2⟩:=aFs (ids:=r) Jo I1;refine ⟨by simpa using q1,fun N => ?_⟩
   obtain ⟨r1,r4⟩:=q2 (aT N i (some o'));refine ⟨fun p j o2 hp => ?_,fun j hj => ?_⟩
   ·cases p with
    | zero =>
     simp at hp;subst hp
     simp only [upds];rw [r4 i I2,cD,if_pos rfl];constructor
     ·intro h;cases h;exact ⟨o,rfl,ho⟩
     ·rintro ⟨o3,h3,h4⟩
      simp at h3;subst h3
      rw [ho] at h4;exact h4
    | succ p =>
     simp only [upds];rw [List.getElem?_cons_succ] at hp
     rw [r1 p j o2 hp];rfl
   ·simp only [upds]
    rw [r4 j (fun e=>hj (B7 _ e)),cD,if_neg (fun e=>hj (by simp [e]))]
  ·cases h
 | [],_::_,L,h,_=>by unfold sJ at h;cases h
 | _::_,[],L,h,_=>by unfold sJ at h;cases h
 | _::_,none::_,L,h,_=>by unfold sJ at h;cases h

theorem aCk{Fg:List Nat}:∀ {ids:List Nat} {m:Mem} {L:Upd},sJ Fg ids m=some L→∀ (p:Nat) (o1:AO),m[p]? = some (some o1)→∃ o',mpO (bkN Fg) o1=some o'
 | [],[],L,h,p,o1,hp=>by simp at hp
 | i::r,some o::m,L,h,p,o1,hp=>by
  unfold sJ at h
  split at h
  ·rename_i hx
   simp only [jV] at h
   obtain ⟨L',Jo,_⟩:=h;cases p with
   | zero=>simp at hp;subst hp;exact ⟨_,hx⟩
   | succ p=>exact aCk Jo p o1 (by simpa using hp)
  ·cases h
 | [],_::_,L,h,_,_,_=>by unfold sJ at h;cases h
 | _::_,[],L,h,_,_,_=>by unfold sJ at h;cases h
 | _::_,none::_,L,h,_,_,_=>by unfold sJ at h;cases h

def Cx.backN(C C1:Cx)(all:List Nat):Cx :=
 {ι:=fun j=>match idx all j 0 with | some p=>C1.ι p | none=>C.ι j
  κ:=fun j=>match idx all j 0 with | some p=>C1.κ p | none=>C.κ j
  F:=C1.F }

theorem bHl{ids news:List Nat}{r y:AV}{L:Upd}{C1:Cx}{w':World}{u:Value}(hd:distinct 0 ids=true)(hda:distinct 0 (ids++news)=true)(hb:∀ i∈news,eG M i=true)
  (hs:rnM 0 ids (ids.map (at? M))=some M0) (hlv:∀ i∈ids,dP M i=true) (hU:sJ (ids++news) (ids++news) M1=some L) (hy:mpA (bkN (ids++news)) r=some y)
  (hM:aO P C M w) (hF:Fr (C.rn 0 ids) M0 w C1 M1 w') (Bd:aO P C1 M1 w') (hr:Rep C1 M1 w' r u):Fr C M w (C.backN C1 (ids++news)) (upds M L) w'∧aO P (C.backN C1 (ids++news)) (upds M L) w'∧Rep (C.backN C1 (ids++news)) (upds M L) w' y u:=by
 obtain ⟨_,hnd⟩:=gP hd;obtain ⟨_,hna⟩:=gP hda;obtain ⟨B1,hmp,hsrc⟩:=pE (k:=0) hM hd hs;have hlen:M0.length=ids.length:=by have:=(zM hs).1;simpa using this
 generalize hall:ids++news=all at *
 obtain ⟨hl1,hup⟩:=aFs hU hna;obtain ⟨u1,u4⟩:=hup M;have hL:=B1.le hF;have inA:∀ (p i:Nat),ids[p]? = some i→all[p]? = some i:=fun p i h=>by
  rw [← hall,aAy (A2.1 h).1];exact h
 have memA:∀ i,i∈all↔i∈ids∨i∈news:=fun i=>by rw [← hall];simp
 have newF:∀ (p i:Nat),all[p]? = some i→i∉ids→eG M i=true:=fun p i h hn=>by
  rcases (memA i).1 (Bf h) with h | h
  ·exact absurd h hn
  ·exact hb i h
 have oldP:∀ (p i:Nat),all[p]? = some i→i∈ids→ids[p]? = some i:=fun p i h hn=>by
  obtain ⟨q,hq,he⟩:=List.mem_iff_getElem.1 hn;have h2:ids[q]? = some i:=by rw [Ap hq,he]
  have e1:=oJ hna 0 h;have e2:=oJ hna 0 (inA q i h2);rw [e1] at e2
  have:p=q:=by simpa using e2
  rw [this];exact h2
 have rnp:∀ p i,ids[p]? = some i→rnI 0 ids i=some p:=fun p i h=>by
  have:=oJ hnd 0 h;unfold rnI;rw [show Nat.blt i 0=false from rfl,this,fE]
 have B9:∀ p i,ids[p]? = some i→∃ o o0,M[i]? = some (some o)∧o.live=true∧M0[p]? = some (some o0)∧o0.live=true∧(C.rn 0 ids).ι p=C.ι i∧(C.rn 0 ids).κ p=C.κ i:=fun p i hp=>by
  obtain ⟨o,h1,h2⟩:=cT (hlv i (Bf hp));obtain ⟨o0,h3,h4⟩:=hmp.fw _ _ _ (rnp p i hp) h1;exact ⟨o,o0,h1,h2,h3,by rw [bC h4];exact h2,hmp.at_ _ _ (rnp p i hp)⟩
 have sh_of:∀ (p:Nat) (o0:AO),M0[p]? = some (some o0)→∃ i o,ids[p]? = some i∧M[i]? = some (some o)∧o.live=true∧o0.live=true∧(C.rn 0 ids).ι p=C.ι i:=fun p o0 hp=>by
  obtain ⟨hl,_⟩:=A2.1 hp;have Gy:ids[p]? = some ids[p]:=Ap (by omega)
  obtain ⟨o,o1,h1,h2,h3,h4,h5,_⟩:=B9 p _ Gy;rw [hp] at h3;cases h3
  exact ⟨_,o,Gy,h1,h2,h4,h5⟩
 have apart:∀ (j:Nat) (o:AO) (b:Nat),j∉ids→M[j]? = some (some o)→o.live=true→C.ι j=some b→w'.heap[b]? = w.heap[b]? ∧ ¬ C1.F b∧∀ (p:Nat) (o1:AO),M1[p]? = some (some o1)→o1.live=true→C1.ι p≠some b:=fun j o b hj h1 h2 h3=>by
  have Ce:=hM.lt j o b h1 h2 h3;have Jp:∀ (p:Nat) (o0:AO),M0[p]? = some (some o0)→o0.live=true→(C.rn 0 ids).ι p≠some b:=fun p o0 hp _ he=>by
   obtain ⟨i,o2,q1,q2,q3,_,q4⟩:=sh_of p o0 hp;rw [q4] at he
   have:=hM.inj j i o o2 b h1 h2 q2 q3 h3 he;subst this;exact hj (Bf q1)
  refine ⟨hF.keep b Ce Jp,fun hf => ?_,fun p o1 hp hl he => ?_⟩
  ·rcases hF.F2 b hf with q | q | ⟨p,o0,q1,q2,q3⟩
   ·exact hM.nF j o b h1 h2 h3 q
   ·omega
   ·exact Jp p o0 q1 q2 q3
  ·rcases hF.new p o1 b hp hl he with q | ⟨p0,o0,q1,q2,q3⟩
   ·omega
   ·exact Jp p0 o0 q1 q2 q3
 have ix:∀ j,(j∈all→∃ p,idx all j 0=some p∧all[p]? = some j)∧(j∉all→idx all j 0=none):=fun j=>by
  refine ⟨fun hj => ?_,fun hj => ?_⟩
  ·obtain ⟨p,hp,he⟩:=List.mem_iff_getElem.1 hj
   have:all[p]? = some j:=by rw [Ap hp,he]
   exact ⟨p,by simpa using oJ hna 0 this,this⟩
  ·cases h1:idx all j 0 with
   | none=>rfl
   | some p =>
    obtain ⟨_,h2⟩:=uA _ _ _ _ h1;exact absurd (Bf h2) hj
 have cls:∀ (j:Nat) (o':AO),(upds M L)[j]? = some (some o')→(∃ p o1,all[p]? = some j∧M1[p]? = some (some o1)∧mpO (bkN all) o1=some o'∧(C.backN C1 all).ι j=C1.ι p∧(C.backN C1 all).κ j=C1.κ p) ∨
   (j∉ids∧j∉all∧M[j]? = some (some o')∧(C.backN C1 all).ι j=C.ι j∧(C.backN C1 all).κ j=C.κ j):=fun j o' hj=>by
  rw [← aZ] at hj
  by_cases hm:j∈all
  ·obtain ⟨p,G9,Gz⟩:=(ix j).1 hm
   obtain ⟨o1,h1,h2⟩:=(u1 p j o' Gz).1 hj;exact .inl ⟨p,o1,Gz,h1,h2,by simp [Cx.backN,G9],by simp [Cx.backN,G9]⟩
  ·have hn:=(ix j).2 hm
   rw [u4 j hm] at hj
   exact .inr ⟨fun h=>hm ((memA j).2 (.inl h)),hm,aZ.1 hj,by simp [Cx.backN,hn],by simp [Cx.backN,hn]⟩
 have E0:Fr C M w (C.backN C1 all) (upds M L) w':=by
  refine ⟨hF.os,hF.tape,hF.out,hF.size,fun b Ce hn => ?_,fun i o ho => ?_,fun i o ho ty n cs hx => ?_,fun i o ho o' hx hl => ?_,fun j o b hj hl hjb => ?_,fun b hb=>hF.F1 b hb,fun b hb => ?_⟩
  ·exact hF.keep b Ce fun p o0 hp hl he=>by
    obtain ⟨i,o2,q1,q2,q3,_,q4⟩:=sh_of p o0 hp;rw [q4] at he
    exact hn i o2 q2 q3 he
  ·by_cases hm:i∈all
   ·obtain ⟨p,G9,Gz⟩:=(ix i).1 hm
    have hmi:i∈ids:=Classical.byContradiction fun hni=>cA (newF p i Gz hni) o ho
    obtain ⟨_,o0,_,_,h3,h4,h5,h6⟩:=B9 p i (oldP p i Gz hmi);obtain ⟨⟨o1,q1⟩,q2,q3⟩:=hF.ids p o0 h3;refine ⟨?_,by simp only [Cx.backN,G9];rw [q2,h5],by simp only [Cx.backN,G9];rw [q3,h6]⟩
    obtain ⟨o',hq⟩:=aCk hU p o1 q1;exact ⟨o',aZ.1 ((u1 p i o' Gz).2 ⟨o1,q1,hq⟩)⟩
   ·refine ⟨⟨o,aZ.1 (by rw [u4 i hm];exact aZ.2 ho)⟩,by simp [Cx.backN,(ix i).2 hm],by simp [Cx.backN,(ix i).2 hm]⟩
  ·rcases cls i _ hx with ⟨p,o1,q1,q2,q3,_⟩ | ⟨_,_,q3,_⟩
   ·have hmi:i∈ids:=Classical.byContradiction fun hni=>cA (newF p i q1 hni) o ho
    have q1:=oldP p i q1 hmi;rw [jP q3] at q2
    obtain ⟨o2,o0,h1,_,h3,_⟩:=B9 p i q1;obtain ⟨A9,h5⟩:=hF.row p o0 h3 _ _ _ q2;obtain ⟨o4,h6,h7⟩:=hmp.bk _ _ _ (rnp p i q1) h5;rw [jP h7] at h6
    exact ⟨A9,h6⟩
   ·exact ⟨cs,q3⟩
  ·rcases cls i _ hx with ⟨p,o1,q1,q2,q3,_⟩ | ⟨_,_,q3,_⟩
   ·have hmi:i∈ids:=Classical.byContradiction fun hni=>cA (newF p i q1 hni) o ho
    obtain ⟨o2,o0,h1,h2,h3,_⟩:=B9 p i (oldP p i q1 hmi);rw [ho] at h1;cases h1
    exact h2
   ·rw [ho] at q3;cases q3;exact hl
  ·have fin:∀ (p:Nat) (o1:AO),M1[p]? = some (some o1)→o1.live=true→C1.ι p=some b→w.heap.size≤b∨∃ (Fq:Nat) (o0:AO),M[Fq]? = some (some o0)∧o0.live=true∧C.ι Fq=some b:=fun p o1 h1 h2 h3=>by
    rcases hF.new p o1 b h1 h2 h3 with q | ⟨p0,o0,q1,q2,q3⟩
    ·exact .inl q
    ·obtain ⟨i,o2,r1,r2,r3,_,r4⟩:=sh_of p0 o0 q1
     rw [r4] at q3
     exact .inr ⟨i,o2,r2,r3,q3⟩
   rcases cls j _ hj with ⟨p,o1,q1,q2,q3,q4,_⟩ | ⟨_,_,q3,q4,_⟩
   ·rw [q4] at hjb
    exact fin p o1 q2 (by rw [← bC q3];exact hl) hjb
   ·rw [q4] at hjb
    exact .inr ⟨j,o,q3,hl,hjb⟩
  ·rcases hF.F2 b hb with q | q | ⟨p,o0,q1,q2,q3⟩
   ·exact .inl q
   ·exact .inr (.inl q)
   ·obtain ⟨i,o2,r1,r2,r3,_,r4⟩:=sh_of p o0 q1
    rw [r4] at q3
    exact .inr (.inr ⟨i,o2,r2,r3,q3⟩)
 have E9:=hM.le E0;have hbk:aVe (bkN all) C1 (C.backN C1 all) M1 (upds M L):=by
  refine ⟨fun i j o' hij hj=>(u1 i j o' hij).1 (aZ.2 hj),fun i j o hij hi => ?_,fun i j hij => ?_,fun _ h=>h⟩
  ·obtain ⟨o',hq⟩:=aCk hU i o hi
   exact ⟨o',aZ.1 ((u1 i j o' hij).2 ⟨o,hi,hq⟩),hq⟩
  ·have:=oJ hna 0 hij
   rw [fE] at this
   simp [Cx.backN,this]
 refine ⟨E0,⟨fun j ty n cs h => ?_,fun j ty cs h => ?_,fun j es cl h => ?_,fun j j' o1 o2 b q1 l1 q2 l2 e1 e2 => ?_,fun j o b h hl hb => ?_,Bd.Fs,fun j o b h hl hb => ?_⟩,rL hbk hr hy⟩
 ·rcases cls j _ h with ⟨p,o1,q1,q2,q3,q4,q5⟩ | ⟨q1,_,q3,q4,q5⟩
  ·rw [jP q3] at q2
   rw [q4,q5];exact Bd.row _ _ _ _ q2
  ·rw [q4,q5]
   rcases hM.row _ _ _ _ q3 with q | ⟨b,arr,inf,p0,p1,p2,p3,p4,p5,p6,p7,p8⟩
   ·exact .inl q
   ·exact .inr ⟨b,arr,inf,p0,by rw [(apart j _ b q1 q3 rfl p0).1];exact p1,p2,p3,p4,p5,p6,fun i hi=>(p7 i hi).mono E9.F E9.fz,p8⟩
 ·rcases cls j _ h with ⟨p,o1,q1,q2,q3,q4,q5⟩ | ⟨q1,_,q3,q4,q5⟩
  ·cases o1 with
   | box Cb l =>
    simp only [mpO,jV] at q3
    obtain ⟨l',Cy,e⟩:=q3;cases e;obtain ⟨b,arr,p0,p1,p2,p3,p4⟩:=Bd.box _ _ _ q2;obtain ⟨n1,n2⟩:=eW hbk (w:=w') (us:=fun j=>arr.getD j undef) p3 Cy
    exact ⟨b,arr,by rw [q4];exact p0,p1,by omega,n2,fun j hj=>p4 j (by omega)⟩
   | row=>simp [mpO] at q3
   | mp=>simp [mpO] at q3
   | pk=>simp [mpO] at q3
   | dead=>simp [mpO] at q3
  ·obtain ⟨b,arr,p0,p1,p2,p3,p4⟩:=hM.box _ _ _ q3
   exact ⟨b,arr,by rw [q4];exact p0,by rw [(apart j _ b q1 q3 rfl p0).1];exact p1,p2,fun i hi=>(p3 i hi).mono E9,p4⟩
 ·rcases cls j _ h with ⟨p,o1,q1,q2,q3,q4,q5⟩ | ⟨q1,_,q3,q4,q5⟩
  ·cases o1 with
   | mp Bq Cp =>
    simp only [mpO,Option.some.injEq] at q3
    cases q3;obtain ⟨b,arr,p0,p1,p2,p3⟩:=Bd.mp _ _ _ q2;refine ⟨b,arr,by rw [q4];exact p0,p1,p2,fun j hj => ?_⟩
    obtain ⟨en,s1,s2,s3,s4⟩:=p3 j hj;exact ⟨en,s1,s2,s3,s4.mono hbk.F (fun _ _=>rfl)⟩
   | row=>simp [mpO] at q3
   | box=>simp [mpO] at q3
   | pk=>simp [mpO] at q3
   | dead=>simp [mpO] at q3
  ·obtain ⟨b,arr,p0,p1,p2,p3⟩:=hM.mp _ _ _ q3
   refine ⟨b,arr,by rw [q4];exact p0,by rw [(apart j _ b q1 q3 rfl p0).1];exact p1,p2,fun i hi => ?_⟩
   obtain ⟨en,s1,s2,s3,s4⟩:=p3 i hi;exact ⟨en,s1,s2,s3,s4.mono E9.F E9.fz⟩
 ·rcases cls j _ q1 with ⟨p,a1,r1,r2,r3,r4,_⟩ | ⟨r1,rb,r3,r4,_⟩ <;> rcases cls j' _ q2 with ⟨p',a2,t1,t2,t3,t4,_⟩ | ⟨t1,tb,t3,t4,_⟩
  all_goals (rw [r4] at e1;rw [t4] at e2)
  ·have:=Bd.inj p p' a1 a2 b r2 (by rw [← bC r3];exact l1) t2 (by rw [← bC t3];exact l2) e1 e2
   subst this;rw [r1] at t1;cases t1;rfl
  ·exact absurd e1 ((apart j' o2 b t1 t3 l2 e2).2.2 p a1 r2 (by rw [← bC r3];exact l1))
  ·exact absurd e2 ((apart j o1 b r1 r3 l1 e1).2.2 p' a2 t2 (by rw [← bC t3];exact l2))
  ·exact hM.inj j j' o1 o2 b r3 l1 t3 l2 e1 e2
 ·rcases cls j _ h with ⟨p,o1,q1,q2,q3,q4,q5⟩ | ⟨q1,_,q3,q4,q5⟩
  ·rw [q4] at hb
   exact Bd.nF _ _ b q2 (by rw [← bC q3];exact hl) hb
  ·rw [q4] at hb
   exact (apart j o b q1 q3 hl hb).2.1
 ·rcases cls j _ h with ⟨p,o1,q1,q2,q3,q4,q5⟩ | ⟨q1,_,q3,q4,q5⟩
  ·rw [q4] at hb
   exact Bd.lt _ _ b q2 (by rw [← bC q3];exact hl) hb
  ·rw [q4] at hb
   exact B5 (hM.lt j o b q3 hl hb) hF.size

def aRi(ids news:List Nat)(args:List AV)(bs:Upd)(M1:Mem)(r:AV):Option (List AV × Mem × AV × Upd):=match distinct 0 ids && distinct 0 (ids++news) && ids.all (dP (upds [] bs)) with
 | true=>match rnM 0 ids (ids.map (at? (upds [] bs))) with
  | some M0=>match rnL 0 ids args with
   | some Av=>match sJ (ids++news) (ids++news) M1 with
    | some L=>match mpA (bkN (ids++news)) r with
     | some y=>some (Av,M0,y,L)
     | none=>none
    | none=>none
   | none=>none
  | none=>none
 | false=>none
theorem FMM.fcN{f base k:Nat}(hk:Nat.ble k 8=true){ids:List Nat}{args Av:List AV}{bs:Upd}{r y:AV}{L:Upd}(h:FMM P f Av M0 r M1)(hs:aRi ids ((List.range k).map (base + ·)) args bs M1 r=some (Av,M0,y,L)):FC P f args bs base y L:=fun M hb hf Jj=>by
 unfold aRi at hs
 have hsub:aMm (upds [] bs) M:=fun id o ho=>by
  rcases pC bs [] id o ho with h5 | h5
  ·exact hb _ h5
  ·simp [bG] at h5
 split at hs
 ·rename_i hd
  rw [Bg,Bg,fD] at hd
  obtain ⟨⟨I2,I1⟩,Vj⟩:=hd;have hlv:∀ i∈ids,∃ o,bG (upds [] bs) i=some o∧bG M i=some o∧o.live=true:=fun i hi=>by
   obtain ⟨o,h1,h2⟩:=cT (Vj i hi);exact ⟨o,aZ.2 h1,hsub _ _ (aZ.2 h1),h2⟩
  split at hs
  ·rename_i h1
   split at hs
   ·rename_i h2
    split at hs
    ·rename_i h3
     split at hs
     ·rename_i h4
      cases hs;have he:ids.map (at? M)=ids.map (at? (upds [] bs)):=yO fun i hi=>by
       obtain ⟨o,q1,q2,_⟩:=hlv i hi;unfold at?
       rw [q1,q2]
      intro C w us hus hM n;have G4:rnM 0 ids (ids.map (at? M))=some M0:=by rw [he];exact h1
      obtain ⟨B1,hmp,_⟩:=pE (k:=0) hM I2 G4;refine (h (C.rn 0 ids) w us (aGz hmp hus h2) B1 n).mono ?_;rintro e w' ⟨u,rfl,C1,hF,Bd,hr⟩;exact ⟨u,rfl,C.backN C1 (ids++(List.range k).map (base + ·)),bHl I2 I1 (fun i hi=>by
       obtain ⟨j,hj,rfl⟩:=dH.1 hi;have hj:=vA.1 hj;have hk:=Nat.le_of_ble_eq_true hk;exact Jj j (by omega)) G4 (fun i hi=>by
       obtain ⟨o,_,q2,q3⟩:=hlv i hi;exact gX (aZ.1 q2) q3) h3 h4 hM hF Bd hr⟩
     ·cases hs
    ·cases hs
   ·cases hs
  ·cases hs
 ·cases hs
def qF(ids:List Nat)(base:Nat):=bkN (ids++(List.range 7).map (base+·))
def qN(ids:List Nat)(base:Nat)(x:AV):AV:=(mpA (qF ids base) x).getD .any
theorem mN(ids:List Nat)(base:Nat){P:Program}{f:Nat}{Av:List AV}{M0 M1:Mem}{r:AV}(h:FMM P f Av M0 r M1)(hs:aRi ids ((List.range 7).map (base+·)) (Av.map (qN ids base)) (qS ids (qF ids base) (Av.map (qN ids base)) M0) M1 r=some (Av,M0,qN ids base r,(sJ (ids++(List.range 7).map (base+·)) (ids++(List.range 7).map (base+·)) M1).getD []):=by kernel_rfl):FC P f (Av.map (qN ids base)) (qS ids (qF ids base) (Av.map (qN ids base)) M0) base (qN ids base r) ((sJ (ids++(List.range 7).map (base+·)) (ids++(List.range 7).map (base+·)) M1).getD []):=FMM.fcN (k:=7) rfl h hs
end
section
variable {b0 out Au Gr Gs Ei Gb:Bool}{a b m r0 s0 s1 x0 x1 x2 x3 x4 x5 bib tot Aq Cr Aa Ab Ac Ad Ae Af Ij Ik Il Im Io Ip Dl:Int}{T t T1 t' Cw T107 T109 T113 T115:Lqb}{l o:List Int}{i i' Gp Bn base:Nat}{ov:PV}
variable {dl:Int}{sk dc:Lqq}

noncomputable abbrev iX:Code:=sub (cd Tryz.f95) [1,1,0,1,0,0]
noncomputable abbrev wT:Code:=sub (cd Tryz.f46) [1,1,1,0,1,0,0]
theorem bGg:0≤(0:Int)∧(0:Int)<5:=by first | decide | simp
theorem bGh:0≤(1:Int)∧(1:Int)<5:=by first | decide | simp
theorem bGi:0≤(2:Int)∧(2:Int)<5:=by first | decide | simp
theorem bGj:0≤(3:Int)∧(3:Int)<5:=by first | decide | simp
theorem bGk:0≤(4:Int)∧(4:Int)<5:=by first | decide | simp
abbrev yR(dl:Int)(sk dc:Lqq)(ov:PV)(x:List Int)(bib:Int)(b:Bool)(T T2:Lqb):Prop:=FMM Tp 164 [wV,.p (.agg (x.map aA)),.p (aA bib)] (cL dl sk dc ov T) (pB b) (cL dl sk dc ov T2)
abbrev aDo(dl:Int)(sk dc:Lqq)(ov:PV)(s:List Int)(n:Int)(b:Bool)(T T2:Lqb):Prop:=FMM Tp 95 [qY dl sk dc,.p (.agg (s.map aA)),wV] (cL dl sk dc ov T) (.tup [.p (aA n),.p (blP b)]) (cL dl sk dc ov T2)
section
variable(h0:(decide (x1≤4))=true)(h1:x3=bib)(h2:qZ dl sk dc ov [x0,x1,x2,x3,x4,x5] b0 T T1)
include h0 h1 h2
theorem bUr(h3:b0=true)(h4:x1≠4):FMM Tp 164 [wV,(.p (dcE x0 x1 x2 x3 x4 x5)),(pI bib)] (cL dl sk dc ov T) (pB true) (cL dl sk dc ov T1):=have k1:=fk 9 (dQ x1) rfl;have k2:=mq ck 9 h2;FMM.fi 7 gE func164 ([k1.o]++rT 9++[k2.o]++rT 12) (gc h3 (gc (sQ h4) (gc h3 (A3 (sQ h4) (A3 h3 (gc (eP h1) (gc k2 (A3 (eP h1) (Cn h0 (gc k1 gn))))))))))
theorem bUs{b2:Bool}{T3:Lqb}(h3:b0=true)(h4:x1=4)(h5:bMx dl sk dc ov [x0,x1,x2,x3,x4,x5] b2 T1 T3):FMM Tp 164 [wV,(.p (dcE x0 x1 x2 x3 x4 x5)),(pI bib)] (cL dl sk dc ov T) (pB b2) (cL dl sk dc ov T3):=have k1:=fk 9 (dQ x1) rfl;have k2:=mq ck 9 h2;have k3:=mq ck 9 h5;FMM.fi 7 gE func164 ([k1.o]++rT 9++[k2.o]++rT 5++[bF,bF,bF,bF,k3.o,bT,bF,bT]) (gc h3 (gc (iI h4) (gc h3 (gc k3 (A3 (iI h4) (A3 h3 (gc (eP h1) (gc k2 (A3 (eP h1) (Cn h0 (gc k1 gn)))))))))))
theorem bUt(h3:b0=false):FMM Tp 164 [wV,(.p (dcE x0 x1 x2 x3 x4 x5)),(pI bib)] (cL dl sk dc ov T) (pB false) (cL dl sk dc ov T1):=have k1:=fk 9 (dQ x1) rfl;have k2:=mq ck 9 h2;FMM.fi 7 gE func164 ([k1.o]++rT 9++[k2.o,bT]++rF 6) (Jm h3 (gc (eP h1) (gc k2 (A3 (eP h1) (Cn h0 (gc k1 gn))))))
end
theorem bUu(h0:(decide (x1≤4))=true)(h1:x3≠bib):FMM Tp 164 [wV,(.p (dcE x0 x1 x2 x3 x4 x5)),(pI bib)] (cL dl sk dc ov T) (pB false) (cL dl sk dc ov T):=have k1:=fk 9 (dQ x1) rfl;FMM.fi 7 gE func164 ([k1.o]++rT 5++rF 5) (Cn (bL h1) (Cn h0 (gc k1 gn)))
theorem bUv(h0:(decide (x1≤4))=false):FMM Tp 164 [wV,(.p (dcE x0 x1 x2 x3 x4 x5)),(pI bib)] (cL dl sk dc ov T) (pB false) (cL dl sk dc ov T):=have k1:=fk 9 (dQ x1) rfl;FMM.fi 7 gE func164 ([k1.o]++rF 5) (Cn h0 (gc k1 gn))
theorem bUw(h0:inR (a+b))(Ak:r0=(a+b)):FV Tp 210 [(pI a),(pI b)] base (pI r0) []:=by
 subst Ak;exact FV.fi func210 [] (gc h0 gn)
theorem bUx(h0:inR (a-b))(Ak:r0=(a-b)):FV Tp 211 [(pI a),(pI b)] base (pI r0) []:=by
 subst Ak;exact FV.fi func211 [] (gc h0 gn)
theorem bUy(h0:inR ((1200:Int)*b))(h1:inR (a+((1200:Int)*b)))(Ak:r0=(a+((1200:Int)*b))):FV Tp 212 [(pI a),(pI b)] base (pI r0) []:=by
 subst Ak;exact FV.fi func212 [] (gc h1 (gc h0 gn))
theorem bUz:FV Tp 213 [(pI a),(pI b)] base (pI a) []:=FV.fi func213 [] gn
theorem aIb(a b:Int)(h:inR (a+b)){base:Nat}:FV Tp 210 [.p (aA a),.p (aA b)] base (pI (a+b)) []:=bUw h rfl
theorem bGl(a b:Int)(h:inR (a-b)){base:Nat}:FV Tp 211 [.p (aA a),.p (aA b)] base (pI (a-b)) []:=bUx h rfl
theorem bGm(a b:Int)(h:inR (1200*b)∧inR (a+1200*b)){base:Nat}:FV Tp 212 [.p (aA a),.p (aA b)] base (pI (a+1200*b)) []:=bUy h.1 h.2 rfl
theorem bGn(a b:Int){base:Nat}:FV Tp 213 [.p (aA a),.p (aA b)] base (pI a) []:=bUz
theorem mW:FV Tp 165 [] base (.agg [(.fn 210 [] []),(.fn 211 [] []),(.fn 212 [] []),(.fn 213 [] []),(.fn 210 [] [])]) []:=FV.fi func165 [] gn
def qW(l:List Int)(m:Int)(i:Nat):St:=⟨fr 18 [(0,(pI m)),(4,(pI 0)),(7,(.p (aG l))),(8,(pI (l.length:Int))),(9,(pI (i:Int)))],[]⟩
theorem bVa{R9:Int}(hl0:aF Tp 0 (sub (cd Tryz.f159) cw) (qW l a 0) (.exit 0) (qW l R9 Gp)):FV Tp 159 [(pI a),(.p (aG l))] base (pI R9) []:=FV.fi func159 [hl0.k 6 (gZ [1,3,5,2,10,7])] (gc hl0.code gn)
theorem bAk{Ah m':Int}(h0:(i:Int)<(l.length:Int))(h1:l[i]? = some Ah)(h2:da i)(Ul:m'=(if Ah > m then Ah else m))(Ai:i'=(i+1)):aC Tp 0 (sub (cd Tryz.f159) cw) (qW l m i) .normal (qW l m' i'):=by
 subst Ul Ai;exact aC.fi (gZ [1,3,5,2,10,7]) [bT,.x (aA Ah)] (gc h2 (gc (atm aA h1) (gc (ixn aA h1) (g0 h0))))
theorem bAl(h0:(l.length:Int)≤(i:Int)):aC Tp 0 (sub (cd Tryz.f159) cw) (qW l m i) (.exit 0) (qW l m i):=aC.fi (gZ [1,3,5,2,10,7]) [bF] (gc (bA h0) gn)
def yS(a:Int)(l:List Int):Int:=l.foldl (fun m x=>if x > m then x else m) a
theorem aQl(a:Int)(l:List Int)(hl:l.length≤1000){base:Nat}:FV Tp 159 [.p (aA a),.p (aG l)] base (pI (yS a l)) [] :=
 bVa (aF.range (P:=Tp) (k:=0) (e := .exit 0) (fun i m=>qW l m i) (fun m=>qW l m l.length) (fun m x=>if x > m then x else m) (fun _ _=>True) (by simp) l trivial
  (fun i x acc hx _=>⟨trivial,bAk (by have:=aX hx;omega) hx (aM (by have:=aX hx;omega)) rfl rfl⟩) (fun acc _=>bAl (by omega)))
def cR(dl:Int)(sk dc:Lqq)(ov:PV)(s0 s1:Int)(out:Bool)(tot:Int)(i:Nat)(te:List (Value × PV))(tk:Nat):St:=⟨fr 54 [(4,(.ptr 7 0)),(5,(.ptr 8 0)),(6,(pI 0)),(7,(.kb false)),(8,(pB out)),(9,(pI tot)),(21,(.p (fS dc))),(22,(pI (dc.length:Int))),(23,(pI (i:Int)))],[some (Eg dl sk dc),some (.box 31 [(.p ov)]),some E4,some (.mp te tk),some (.box 183 [(.mp 3)]),some (Eh dl sk dc),some Fy,some (.box 80 [(pI s0),(pI s1)]),some E4]⟩
section
variable(hl0:aF Tp 7 iX (cR dl sk dc ov s0 s1 (s1 == (-1)) s1 0 (aK T) T.length) (.exit 0) (cR dl sk dc ov s0 s1 Gb Dl Bn (aK Cw) Cw.length))
include hl0
theorem bVb(h1:Gb=true):FMM Tp 95 [(.rp (aR dl sk dc) 0),(.p (.agg [(aA s0),(aA s1)])),wV] (cL dl sk dc ov T) (.tup [(pI 0),(pB true)]) (cL dl sk dc ov Cw):=FMM.fi 7 gE func95 [.x (fS dc),hl0.k 1 (gI c7 [7,8]),bT] (gc h1 (gc hl0.code (gr (fS dc) gn)))
theorem bVc(h1:Gb=false)(h2:([Dl]:List Int).length≤1000)(Ak:r0=(yS 0 ([Dl]:List Int))):FMM Tp 95 [(.rp (aR dl sk dc) 0),(.p (.agg [(aA s0),(aA s1)])),wV] (cL dl sk dc ov T) (.tup [(pI r0),(pB false)]) (cL dl sk dc ov Cw):=by
 subst Ak;exact FMM.fi 7 gE func95 [.x (fS dc),hl0.k 1 (gI c7 [7,8]),bF,.c (pI (yS 0 ([Dl]:List Int))) []] (gt (FC Tp 159 [(pI 0),(.own 9)] [(9,(.row 3 1 [(aA Dl)]))] 10 (pI (yS 0 ([Dl]:List Int))) []) (fv (aQl 0 ([Dl]:List Int) h2)) (gc h1 (gc hl0.code (gr (fS dc) gn))))
end
section
variable(h0:(i:Int)<(dc.length:Int))(h1:dc[i]? = some [Aa,(0:Int),Ac,Ad,Ae,Af])(h2:uni 6 dc)(h3:yR dl sk dc ov [Aa,(0:Int),Ac,Ad,Ae,Af] s0 Au t T107)(h4:Au=true)
include h0 h1 h2 h3 h4
theorem bAm(h5:out=true)(h6:yT dl sk dc ov [Aa,(0:Int),Ac,Ad,Ae,Af] Aq T107 T109)(h7:inR (tot+Aq))(h8:da i)(Bs:Cr=(tot+Aq))(Ai:i'=(i+1))(An:aK t'=(aK T109))(Ao:t'.length=T109.length):aC Tp 7 iX (cR dl sk dc ov s0 s1 out tot i (aK t) t.length) .normal (cR dl sk dc ov s0 s1 true Cr i' (aK t') t'.length):=by
 subst Bs Ai;have k1:=mq ck 10 h3;have k2:=fk 10 mW rfl;have k3:=mq ck 18 h6;rw [An,Ao];exact aC.fi (gN c7 [7,8] [(8,0)]) ([bT,.x (dcE Aa 0 Ac Ad Ae Af),k1.o]++rT 5++[k2.o,k3.o,.c (pI (tot+Aq)) []]) (gc h8 (gc (fk 26 (aIb tot Aq h7) rfl) (gc k3 (gc bGg (gc k2 (A3 h5 (gc h4 (gc k1 (gfl h2 h1 (g0 h0))))))))))
theorem bAn(h5:out=false)(h6:yT dl sk dc ov [Aa,(0:Int),Ac,Ad,Ae,Af] Aq T107 T109)(h7:inR (tot+Aq))(h8:da i)(C9:Ei=((0:Int) == 3))(Bs:Cr=(tot+Aq))(Ai:i'=(i+1))(An:aK t'=(aK T109))(Ao:t'.length=T109.length):aC Tp 7 iX (cR dl sk dc ov s0 s1 out tot i (aK t) t.length) .normal (cR dl sk dc ov s0 s1 Ei Cr i' (aK t') t'.length):=by
 subst C9 Bs Ai;have k1:=mq ck 10 h3;have k2:=fk 10 mW rfl;have k3:=mq ck 18 h6;rw [An,Ao];exact aC.fi (gI c7 [7,8]) [bT,.x (dcE Aa 0 Ac Ad Ae Af),k1.o,bT,bF,bF,bF,bF,k2.o,k3.o,.c (pI (tot+Aq)) []] (gc h8 (gc (fk 26 (aIb tot Aq h7) rfl) (gc k3 (gc bGg (gc k2 (A3 h5 (gc h4 (gc k1 (gfl h2 h1 (g0 h0))))))))))
end
section
variable(h0:(i:Int)<(dc.length:Int))(h1:dc[i]? = some [Aa,(1:Int),Ac,Ad,Ae,Af])(h2:uni 6 dc)(h3:yR dl sk dc ov [Aa,(1:Int),Ac,Ad,Ae,Af] s0 Au t T107)(h4:Au=true)
include h0 h1 h2 h3 h4
theorem bAo(h5:out=true)(h6:yT dl sk dc ov [Aa,(1:Int),Ac,Ad,Ae,Af] Aq T107 T109)(h7:inR (tot-Aq))(h8:da i)(Bs:Cr=(tot-Aq))(Ai:i'=(i+1))(An:aK t'=(aK T109))(Ao:t'.length=T109.length):aC Tp 7 iX (cR dl sk dc ov s0 s1 out tot i (aK t) t.length) .normal (cR dl sk dc ov s0 s1 true Cr i' (aK t') t'.length):=by
 subst Bs Ai;have k1:=mq ck 10 h3;have k2:=fk 10 mW rfl;have k3:=mq ck 18 h6;rw [An,Ao];exact aC.fi (gN c7 [7,8] [(8,0)]) ([bT,.x (dcE Aa 1 Ac Ad Ae Af),k1.o]++rT 5++[k2.o,k3.o,.c (pI (tot-Aq)) []]) (gc h8 (gc (fk 26 (bGl tot Aq h7) rfl) (gc k3 (gc bGh (gc k2 (A3 h5 (gc h4 (gc k1 (gfl h2 h1 (g0 h0))))))))))
theorem bAp(h5:out=false)(h6:yT dl sk dc ov [Aa,(1:Int),Ac,Ad,Ae,Af] Aq T107 T109)(h7:inR (tot-Aq))(h8:da i)(C9:Ei=((1:Int) == 3))(Bs:Cr=(tot-Aq))(Ai:i'=(i+1))(An:aK t'=(aK T109))(Ao:t'.length=T109.length):aC Tp 7 iX (cR dl sk dc ov s0 s1 out tot i (aK t) t.length) .normal (cR dl sk dc ov s0 s1 Ei Cr i' (aK t') t'.length):=by
 subst C9 Bs Ai;have k1:=mq ck 10 h3;have k2:=fk 10 mW rfl;have k3:=mq ck 18 h6;rw [An,Ao];exact aC.fi (gI c7 [7,8]) [bT,.x (dcE Aa 1 Ac Ad Ae Af),k1.o,bT,bF,bF,bF,bF,k2.o,k3.o,.c (pI (tot-Aq)) []] (gc h8 (gc (fk 26 (bGl tot Aq h7) rfl) (gc k3 (gc bGh (gc k2 (A3 h5 (gc h4 (gc k1 (gfl h2 h1 (g0 h0))))))))))
end
section
variable(h0:(i:Int)<(dc.length:Int))(h1:dc[i]? = some [Aa,(2:Int),Ac,Ad,Ae,Af])(h2:uni 6 dc)(h3:yR dl sk dc ov [Aa,(2:Int),Ac,Ad,Ae,Af] s0 Au t T107)(h4:Au=true)
include h0 h1 h2 h3 h4
theorem bAq(h5:out=true)(h6:yT dl sk dc ov [Aa,(2:Int),Ac,Ad,Ae,Af] Aq T107 T109)(h7:inR (1200*Aq)∧inR (tot+1200*Aq))(h8:da i)(Bs:Cr=(tot+1200*Aq))(Ai:i'=(i+1))(An:aK t'=(aK T109))(Ao:t'.length=T109.length):aC Tp 7 iX (cR dl sk dc ov s0 s1 out tot i (aK t) t.length) .normal (cR dl sk dc ov s0 s1 true Cr i' (aK t') t'.length):=by
 subst Bs Ai;have k1:=mq ck 10 h3;have k2:=fk 10 mW rfl;have k3:=mq ck 18 h6;have k4:=fk 26 (bGm tot Aq h7) rfl;rw [An,Ao];exact aC.fi (gN c7 [7,8] [(8,0)]) ([bT,.x (dcE Aa 2 Ac Ad Ae Af),k1.o]++rT 5++[k2.o,k3.o,k4.o]) (gc h8 (gc k4 (gc k3 (gc bGi (gc k2 (A3 h5 (gc h4 (gc k1 (gfl h2 h1 (g0 h0))))))))))
theorem bAr(h5:out=false)(h6:yT dl sk dc ov [Aa,(2:Int),Ac,Ad,Ae,Af] Aq T107 T109)(h7:inR (1200*Aq)∧inR (tot+1200*Aq))(h8:da i)(C9:Ei=((2:Int) == 3))(Bs:Cr=(tot+1200*Aq))(Ai:i'=(i+1))(An:aK t'=(aK T109))(Ao:t'.length=T109.length):aC Tp 7 iX (cR dl sk dc ov s0 s1 out tot i (aK t) t.length) .normal (cR dl sk dc ov s0 s1 Ei Cr i' (aK t') t'.length):=by
 subst C9 Bs Ai;have k1:=mq ck 10 h3;have k2:=fk 10 mW rfl;have k3:=mq ck 18 h6;have k4:=fk 26 (bGm tot Aq h7) rfl;rw [An,Ao];exact aC.fi (gI c7 [7,8]) [bT,.x (dcE Aa 2 Ac Ad Ae Af),k1.o,bT,bF,bF,bF,bF,k2.o,k3.o,k4.o] (gc h8 (gc k4 (gc k3 (gc bGi (gc k2 (A3 h5 (gc h4 (gc k1 (gfl h2 h1 (g0 h0))))))))))
end
section
variable(h0:(i:Int)<(dc.length:Int))(h1:dc[i]? = some [Aa,(3:Int),Ac,Ad,Ae,Af])(h2:uni 6 dc)(h3:yR dl sk dc ov [Aa,(3:Int),Ac,Ad,Ae,Af] s0 Au t T107)(h4:Au=true)
include h0 h1 h2 h3 h4
theorem bAs(h5:out=true)(h6:yT dl sk dc ov [Aa,(3:Int),Ac,Ad,Ae,Af] Aq T107 T109)(h7:da i)(Ai:i'=(i+1))(An:aK t'=(aK T109))(Ao:t'.length=T109.length):aC Tp 7 iX (cR dl sk dc ov s0 s1 out tot i (aK t) t.length) .normal (cR dl sk dc ov s0 s1 true tot i' (aK t') t'.length):=by
 subst Ai;have k1:=mq ck 10 h3;have k2:=fk 10 mW rfl;have k3:=mq ck 18 h6;rw [An,Ao];exact aC.fi (gN c7 [7,8] [(8,0)]) ([bT,.x (dcE Aa 3 Ac Ad Ae Af),k1.o]++rT 5++[k2.o,k3.o,.c (pI tot) []]) (gc h7 (gc (fk 26 (bGn tot Aq) rfl) (gc k3 (gc bGj (gc k2 (A3 h5 (gc h4 (gc k1 (gfl h2 h1 (g0 h0))))))))))
theorem bAt(h5:out=false)(h6:yT dl sk dc ov [Aa,(3:Int),Ac,Ad,Ae,Af] Aq T107 T109)(h7:da i)(C9:Ei=((3:Int) == 3))(Ai:i'=(i+1))(An:aK t'=(aK T109))(Ao:t'.length=T109.length):aC Tp 7 iX (cR dl sk dc ov s0 s1 out tot i (aK t) t.length) .normal (cR dl sk dc ov s0 s1 Ei tot i' (aK t') t'.length):=by
 subst C9 Ai;have k1:=mq ck 10 h3;have k2:=fk 10 mW rfl;have k3:=mq ck 18 h6;rw [An,Ao];exact aC.fi (gI c7 [7,8]) [bT,.x (dcE Aa 3 Ac Ad Ae Af),k1.o,bT,bF,bF,bF,bF,k2.o,k3.o,.c (pI tot) []] (gc h7 (gc (fk 26 (bGn tot Aq) rfl) (gc k3 (gc bGj (gc k2 (A3 h5 (gc h4 (gc k1 (gfl h2 h1 (g0 h0))))))))))
end
section
variable(h0:(i:Int)<(dc.length:Int))(h1:dc[i]? = some [Aa,(4:Int),Ac,Ad,Ae,Af])(h2:uni 6 dc)(h3:yR dl sk dc ov [Aa,(4:Int),Ac,Ad,Ae,Af] s0 Au t T107)(h4:Au=true)
include h0 h1 h2 h3 h4
theorem bAu(h5:out=true)(h6:yT dl sk dc ov [Aa,(4:Int),Ac,Ad,Ae,Af] Aq T107 T109)(h7:inR (tot+Aq))(h8:da i)(Bs:Cr=(tot+Aq))(Ai:i'=(i+1))(An:aK t'=(aK T109))(Ao:t'.length=T109.length):aC Tp 7 iX (cR dl sk dc ov s0 s1 out tot i (aK t) t.length) .normal (cR dl sk dc ov s0 s1 true Cr i' (aK t') t'.length):=by
 subst Bs Ai;have k1:=mq ck 10 h3;have k2:=fk 10 mW rfl;have k3:=mq ck 18 h6;rw [An,Ao];exact aC.fi (gN c7 [7,8] [(8,0)]) ([bT,.x (dcE Aa 4 Ac Ad Ae Af),k1.o]++rT 5++[k2.o,k3.o,.c (pI (tot+Aq)) []]) (gc h8 (gc (fk 26 (aIb tot Aq h7) rfl) (gc k3 (gc bGk (gc k2 (A3 h5 (gc h4 (gc k1 (gfl h2 h1 (g0 h0))))))))))
theorem bAv(h5:out=false)(h6:yT dl sk dc ov [Aa,(4:Int),Ac,Ad,Ae,Af] Aq T107 T109)(h7:inR (tot+Aq))(h8:da i)(C9:Ei=((4:Int) == 3))(Bs:Cr=(tot+Aq))(Ai:i'=(i+1))(An:aK t'=(aK T109))(Ao:t'.length=T109.length):aC Tp 7 iX (cR dl sk dc ov s0 s1 out tot i (aK t) t.length) .normal (cR dl sk dc ov s0 s1 Ei Cr i' (aK t') t'.length):=by
 subst C9 Bs Ai;have k1:=mq ck 10 h3;have k2:=fk 10 mW rfl;have k3:=mq ck 18 h6;rw [An,Ao];exact aC.fi (gI c7 [7,8]) [bT,.x (dcE Aa 4 Ac Ad Ae Af),k1.o,bT,bF,bF,bF,bF,k2.o,k3.o,.c (pI (tot+Aq)) []] (gc h8 (gc (fk 26 (aIb tot Aq h7) rfl) (gc k3 (gc bGk (gc k2 (A3 h5 (gc h4 (gc k1 (gfl h2 h1 (g0 h0))))))))))
end
theorem aQm(h0:(i:Int)<(dc.length:Int))(h1:dc[i]? = some [Aa,Ab,Ac,Ad,Ae,Af])(h2:uni 6 dc)(h3:yR dl sk dc ov [Aa,Ab,Ac,Ad,Ae,Af] s0 Au t T107)(h4:Au=false)(h5:da i)(Ai:i'=(i+1))(An:aK t'=(aK T107))(Ao:t'.length=T107.length):aC Tp 7 iX (cR dl sk dc ov s0 s1 out tot i (aK t) t.length) .normal (cR dl sk dc ov s0 s1 out tot i' (aK t') t'.length):=by
 subst Ai;have k1:=mq ck 10 h3;rw [An,Ao];exact aC.fi (gI c7 [7,8]) [bT,.x (dcE Aa Ab Ac Ad Ae Af),k1.o,bF] (gc h5 (gc h4 (gc k1 (gfl h2 h1 (g0 h0)))))
theorem aQn(h0:(dc.length:Int)≤(i:Int)):aC Tp 7 iX (cR dl sk dc ov s0 s1 out tot i (aK t) t.length) (.exit 0) (cR dl sk dc ov s0 s1 out tot i (aK t) t.length):=aC.fi (gI c7 [7,8]) [bF] (gc (bA h0) gn)
def iY(dl:Int)(sk dc:Lqq)(on:Nat)(oc:List PV)(i:Nat)(te:List (Value × PV))(tk:Nat):St:=⟨fr 48 [(2,(.p dY)),(3,(.ptr 7 0)),(4,(.own 8)),(15,(.p (fS dc))),(16,(pI (dc.length:Int))),(17,(pI (i:Int)))],[some (Eg dl sk dc),some (.box 31 [(.p dY)]),some E4,some (.mp te tk),some (.box 183 [(.mp 3)]),some (Eh dl sk dc),some Fy,some E4,some (.row 3 on oc)]⟩
theorem bVd{Jb:List Int}{Sa:Lqb}(hl0:aF Tp 0 wT (iY dl sk dc 0 [] 0 (aK ([]:Lqb)) 0) (.exit 0) (iY dl sk dc Jb.length (Jb.map aA) Gp (aK Sa) Sa.length)):FV Tp 46 [(.rp (aR dl sk dc) 0)] base (.own base) [(base,(.row 3 Jb.length (Jb.map aA)))]:=have k1:=mN [] 0 (aIi (dl:=dl) (sk:=sk) (dc:=dc));FV.fi func46 [k1.o,.x (fS dc),hl0.k 1 (gN ca bv [(4,3)])] (gc hl0.code (gr (fS dc) (gc k1 gn)))
section
variable(h0:(i:Int)<(dc.length:Int))(h1:dc[i]? = some [Aa,Ab,Ac,Ad,Ae,Af])(h2:uni 6 dc)(h3:aLn dl sk dc dY [Aa,Ab,Ac,Ad,Ae,Af] [Ij,Ik,Il,Im,Io,Ip] Gr t T113)
include h0 h1 h2 h3
theorem bAw{o':List Int}(h4:(gF Ab)=true)(h5:qZ dl sk dc dY [Aa,Ab,Ac,Ad,Ae,Af] Gs T113 T115)(h6:Gs=true)(h7:Gr=false)(h8:[(aA Aa)].length=1*1∧o.length+1≤1000000)(h9:da i)(Cs:o'.length=(o.length+1))(Ct:o'.map aA=((o.map aA)++[(aA Aa)]))(Ai:i'=(i+1))(An:aK t'=(aK T115))(Ao:t'.length=T115.length):aC Tp 0 wT (iY dl sk dc o.length (o.map aA) i (aK t) t.length) .normal (iY dl sk dc o'.length (o'.map aA) i' (aK t') t'.length):=by
 subst Ai;have k1:=mq ck 10 h3;have k2:=fk 11 (wW Ab) rfl;have k3:=mq ck 11 h5;rw [Cs,Ct,An,Ao];exact aC.fi (gI ca [0,1,2,3,4,5,6,7,12]) ([bT,.x (dcE Aa Ab Ac Ad Ae Af),k1.o,k2.o,bT,bT,bT,bT,k3.o]++rT 5) (gc h9 (gc h8 (gc (bZ h7) (Ar h6 (gc h4 (gc k3 (A3 h4 (gc k2 (gc k1 (gfl h2 h1 (g0 h0)))))))))))
theorem bAx(h4:(gF Ab)=true)(h5:qZ dl sk dc dY [Aa,Ab,Ac,Ad,Ae,Af] Gs T113 T115)(h6:Gs=true)(h7:Gr=true)(h8:da i)(Ai:i'=(i+1))(An:aK t'=(aK T115))(Ao:t'.length=T115.length):aC Tp 0 wT (iY dl sk dc o.length (o.map aA) i (aK t) t.length) .normal (iY dl sk dc o.length (o.map aA) i' (aK t') t'.length):=by
 subst Ai;have k1:=mq ck 10 h3;have k2:=fk 11 (wW Ab) rfl;have k3:=mq ck 11 h5;rw [An,Ao];exact aC.fi (gI ca bv) [bT,.x (dcE Aa Ab Ac Ad Ae Af),k1.o,k2.o,bT,bT,bT,bT,k3.o,bT,bT,bT,bT,bF] (gc h8 (gc (aV h7) (Ar h6 (gc h4 (gc k3 (A3 h4 (gc k2 (gc k1 (gfl h2 h1 (g0 h0))))))))))
theorem bAy(h4:(gF Ab)=true)(h5:qZ dl sk dc dY [Aa,Ab,Ac,Ad,Ae,Af] Gs T113 T115)(h6:Gs=false)(h7:da i)(Ai:i'=(i+1))(An:aK t'=(aK T115))(Ao:t'.length=T115.length):aC Tp 0 wT (iY dl sk dc o.length (o.map aA) i (aK t) t.length) .normal (iY dl sk dc o.length (o.map aA) i' (aK t') t'.length):=by
 subst Ai;have k1:=mq ck 10 h3;have k2:=fk 11 (wW Ab) rfl;have k3:=mq ck 11 h5;rw [An,Ao];exact aC.fi (gI ca bv) [bT,.x (dcE Aa Ab Ac Ad Ae Af),k1.o,k2.o,bT,bT,bT,bT,k3.o,bT,bF,bF,bF] (gc h7 (Ar h6 (gc h4 (gc k3 (A3 h4 (gc k2 (gc k1 (gfl h2 h1 (g0 h0)))))))))
theorem bAz(h4:(gF Ab)=false)(h5:da i)(Ai:i'=(i+1))(An:aK t'=(aK T113))(Ao:t'.length=T113.length):aC Tp 0 wT (iY dl sk dc o.length (o.map aA) i (aK t) t.length) .normal (iY dl sk dc o.length (o.map aA) i' (aK t') t'.length):=by
 subst Ai;have k1:=mq ck 10 h3;have k2:=fk 11 (wW Ab) rfl;rw [An,Ao];exact aC.fi (gI ca bv) ([bT,.x (dcE Aa Ab Ac Ad Ae Af),k1.o,k2.o]++rF 5) (gc h5 (Cn h4 (gc k2 (gc k1 (gfl h2 h1 (g0 h0))))))
end
theorem bBa(h0:(dc.length:Int)≤(i:Int)):aC Tp 0 wT (iY dl sk dc o.length (o.map aA) i (aK t) t.length) (.exit 0) (iY dl sk dc o.length (o.map aA) i (aK t) t.length):=aC.fi (gI ca bv) [bF] (gc (bA h0) gn)
end
section
def aQk(dl:Int)(oc:List Int)(dc:Lqq)(bib:Int)(x:List Int):Bool:=decide (dK x≤4) && (dB x == bib && (cZ dl oc dc x && (!(dK x == 4) || aDp dl oc dc x)))
def byI(k t m:Int):Int:=if k=1 then t-m else if k=2 then t+1200*m else if k=3 then t else t+m
def aDm(dl:Int)(oc:List Int)(dc:Lqq)(bib:Int)(acc:Bool × Int)(x:List Int):Bool × Int:=if aQk dl oc dc bib x then (acc.1 || dK x == 3,byI (dK x) acc.2 (nR dl oc dc x)) else acc
def aDn(dl:Int)(oc:List Int)(dc:Lqq)(bib time:Int):Bool × Int:=dc.foldl (aDm dl oc dc bib) (time == -1,time)
def totM(dl:Int)(oc:List Int)(dc:Lqq)(bib time:Int):Int × Bool:=if (aDn dl oc dc bib time).1 then (0,true) else (max 0 (aDn dl oc dc bib time).2,false)
def oW(dl:Int)(dc:Lqq)(x:List Int):Bool:=gF (dK x) && (cZ dl [] dc x && (tW dl [] dc x).isNone)
def aU(dl:Int)(dc:Lqq):List Int:=(dc.filter (oW dl dc)).map dN
section
variable {dl:Int} {sk dc:Lqq} {oc:List Int} {ov:PV}
theorem bMt(hd:bS dc)(hov:∀ n,sG ov n (oc.contains n)){x:List Int}(hx:x∈dc){T:Lqb}(hT:bY dl oc dc T):∃ T' z0 z1 z2 z3 z4 z5,bY dl oc dc T'∧(tW dl oc dc x).getD Ga=[z0,z1,z2,z3,z4,z5]∧aLn dl sk dc ov x [z0,z1,z2,z3,z4,z5] (tW dl oc dc x).isSome T T':=by
 obtain ⟨T',h1,h2⟩:=bYf (sk:=sk) hd hov hx T hT;cases hr:tW dl oc dc x with
 | none =>
  rw [hr] at h2
  exact ⟨T',0,0,0,0,0,0,h1,rfl,h2⟩
 | some z =>
  have hz:z.length=6:=by
   rw [aCd hd hx] at hr
   exact gA hd _ z (uY hr)
  obtain ⟨a,b,c,d,e,f,rfl⟩:=Az hz;rw [hr] at h2
  exact ⟨T',a,b,c,d,e,f,h1,rfl,h2⟩
theorem aLm(hd:bS dc):∀ (n:Nat) (x:List Int),x∈dc→10000-dN x≤(n:Int)→0≤nR dl oc dc x∧nR dl oc dc x≤36000
 | 0,x,hx,h=>by have:=eR hd hx;omega
 | n+1,x,hx,h=>by
  rw [aUh hd hx];cases hr:aIj dl oc dc x with
  | none =>
   have h4:=(gY.1 (hd.rng x hx)).2.2.2;have:jX (x.getD 1 0)≤36000:=by unfold jX;split <;> omega
   show 0≤x.getD 4 0∧x.getD 4 0≤36000;omega
  | some z =>
   have hz:z∈bJ dc (dN x):=by
    rw [aCe hd hx] at hr
    exact uY hr
   obtain ⟨a1,a2⟩:=qX hd hx hz;exact aLm hd n z a1 (by omega)
theorem bMu(hd:bS dc){x:List Int}(hx:x∈dc):0≤nR dl oc dc x∧nR dl oc dc x≤36000:=aLm hd 10000 x hx (by have:=eR hd hx;omega)
theorem bYe(hd:bS dc)(hov:∀ n,sG ov n (oc.contains n))(bib:Int){x:List Int}(hx:x∈dc){T:Lqb}(hT:bY dl oc dc T):∃ T',bY dl oc dc T'∧yR dl sk dc ov x bib (aQk dl oc dc bib x) T T':=by
 obtain ⟨T1,h1,c1⟩:=bGr (sk:=sk) hd hov hx T hT;obtain ⟨T2,h2,c2⟩:=bYh (sk:=sk) hd hov hx T1 h1;obtain ⟨a,k,c,d,e,f,rfl⟩:=Az (hd.ud x hx);unfold aQk
 by_cases hk:k≤4
 ·have E2:decide (k≤4)=true:=decide_eq_true hk
  rw [show decide (dK [a,k,c,d,e,f]≤4)=true from E2,gU]
  by_cases hb:d=bib
  ·rw [show (dB [a,k,c,d,e,f] == bib)=true by simpa using hb,gU]
   cases hc:cZ dl oc dc [a,k,c,d,e,f] with
   | false =>
    rw [hc] at c1
    exact ⟨T1,h1,bUt E2 hb c1 rfl⟩
   | true =>
    rw [hc] at c1
    rw [gU]
    by_cases h4:k=4
    ·rw [show (dK [a,k,c,d,e,f] == 4)=true by simpa using h4,Bool.not_true,Bool.false_or]
     exact ⟨T2,h2,bUs E2 hb c1 rfl h4 c2⟩
    ·rw [show (dK [a,k,c,d,e,f] == 4)=false by simpa using h4,Bool.not_false,Bool.true_or]
     exact ⟨T1,h1,bUr E2 hb c1 rfl h4⟩
  ·rw [show (dB [a,k,c,d,e,f] == bib)=false by simpa using hb,Bool.false_and]
   exact ⟨T,hT,bUu E2 hb⟩
 ·have E2:decide (k≤4)=false:=decide_eq_false hk
  rw [show decide (dK [a,k,c,d,e,f]≤4)=false from E2,Bool.false_and]
  exact ⟨T,hT,bUv E2⟩
theorem bGf(hd:bS dc)(hov:∀ n,sG ov n (oc.contains n))(s0 s1:Int)(hs : -1≤s1∧s1≤360000){T:Lqb}(hT:bY dl oc dc T):∃ T',bY dl oc dc T'∧aDo dl sk dc ov [s0,s1] (totM dl oc dc s0 s1).1 (totM dl oc dc s0 s1).2 T T':=by
 have hlen:=hd.len;obtain ⟨acc,⟨h1,h2,_⟩,h3⟩:=aF.ex (P:=Tp) (k:=7) (b:=sub (cd Tryz.f95) ct) (e := .exit 0) (fun i (a:(Bool × Int) × Lqb)=>cR dl sk dc ov s0 s1 a.1.1 a.1.2 i (aK a.2) a.2.length)
  (fun a=>cR dl sk dc ov s0 s1 a.1.1 a.1.2 dc.length (aK a.2) a.2.length)
  (fun i a=>bY dl oc dc a.2∧a.1=(dc.take i).foldl (aDm dl oc dc s0) (s1 == -1,s1) ∧ -1-36000*(i:Int)≤a.1.2∧a.1.2≤360000+43200000*(i:Int)) (by simp) dc.length
  (fun i acc hi hI=>by
   obtain ⟨⟨out,tot⟩,T1⟩:=acc;obtain ⟨h1,h2,h3,h4⟩:=hI;dsimp only at h1 h2 h3 h4
   have hm:=eT hi;obtain ⟨a,k,c,d,e,f,hy⟩:=Az (hd.ud _ hm);have hx:dc[i]? = some [a,k,c,d,e,f]:=by rw [Ap hi,hy]
   rw [hy] at hm
   have et:(dc.take (i+1)).foldl (aDm dl oc dc s0) (s1 == -1,s1)=aDm dl oc dc s0 (out,tot) [a,k,c,d,e,f]:=by
    rw [List.take_add_one,hx,aDk,← h2];rfl
   obtain ⟨T2,q1,q2⟩:=bYe (sk:=sk) hd hov s0 hm h1;rw [et];unfold aDm;cases hh:aQk dl oc dc s0 [a,k,c,d,e,f] with
   | false =>
    rw [hh] at q2
    exact ⟨((out,tot),T2),⟨q1,by simp,by dsimp only;omega,by dsimp only;omega⟩,aQm (by omega) hx hd.ud q2 rfl (aM (by omega)) rfl rfl rfl⟩
   | true =>
    rw [hh] at q2
    rw [if_pos rfl];obtain ⟨T3,q3,q4⟩:=bYi (sk:=sk) hd hov hm T2 q1;have hb:=bMu (dl:=dl) (oc:=oc) hd hm;revert q4 hb;generalize nR dl oc dc [a,k,c,d,e,f]=m;intro q4 hb;have hk:0≤k∧k≤4:=by
     have h5:=(gY.1 (hd.rng _ hm)).2.1;unfold aQk at hh
     rw [Bg] at hh
     exact ⟨h5.1,of_decide_eq_true hh.1⟩
    have Uk:k=0∨k=1∨k=2∨k=3∨k=4:=by omega
    clear hh
    rcases Uk with rfl | rfl | rfl | rfl | rfl
    ·have hI:∀ q:Bool,-1-36000*((i+1:Nat):Int)≤tot+m∧tot+m≤360000+43200000*((i+1:Nat):Int):=fun _=>by omega
     cases out with
     | true=>exact ⟨((true,tot+m),T3),⟨q3,rfl,(hI true).1,(hI true).2⟩,bAm (by omega) hx hd.ud q2 rfl rfl q4 (by show inR (tot+m);unfold inR;omega) (aM (by omega)) rfl rfl rfl rfl⟩
     | false=>exact ⟨((false,tot+m),T3),⟨q3,rfl,(hI true).1,(hI true).2⟩,bAn (by omega) hx hd.ud q2 rfl rfl q4 (by show inR (tot+m);unfold inR;omega) (aM (by omega)) rfl rfl rfl rfl rfl⟩
    ·have hI:∀ q:Bool,-1-36000*((i+1:Nat):Int)≤tot-m∧tot-m≤360000+43200000*((i+1:Nat):Int):=fun _=>by omega
     cases out with
     | true=>exact ⟨((true,tot-m),T3),⟨q3,rfl,(hI true).1,(hI true).2⟩,bAo (by omega) hx hd.ud q2 rfl rfl q4 (by show inR (tot-m);unfold inR;omega) (aM (by omega)) rfl rfl rfl rfl⟩
     | false=>exact ⟨((false,tot-m),T3),⟨q3,rfl,(hI true).1,(hI true).2⟩,bAp (by omega) hx hd.ud q2 rfl rfl q4 (by show inR (tot-m);unfold inR;omega) (aM (by omega)) rfl rfl rfl rfl rfl⟩
    ·have hI:∀ q:Bool,-1-36000*((i+1:Nat):Int)≤tot+1200*m∧tot+1200*m≤360000+43200000*((i+1:Nat):Int):=fun _=>by omega
     cases out with
     | true=>exact ⟨((true,tot+1200*m),T3),⟨q3,rfl,(hI true).1,(hI true).2⟩,bAq (by omega) hx hd.ud q2 rfl rfl q4 ⟨by show inR (1200*m);unfold inR;omega,by show inR (tot+1200*m);unfold inR;omega⟩ (aM (by omega)) rfl rfl rfl rfl⟩
     | false=>exact ⟨((false,tot+1200*m),T3),⟨q3,rfl,(hI true).1,(hI true).2⟩,bAr (by omega) hx hd.ud q2 rfl rfl q4 ⟨by show inR (1200*m);unfold inR;omega,by show inR (tot+1200*m);unfold inR;omega⟩ (aM (by omega)) rfl rfl rfl rfl rfl⟩
    ·have hI:∀ q:Bool,-1-36000*((i+1:Nat):Int)≤tot∧tot≤360000+43200000*((i+1:Nat):Int):=fun _=>by omega
     cases out with
     | true=>exact ⟨((true,tot),T3),⟨q3,rfl,(hI true).1,(hI true).2⟩,bAs (by omega) hx hd.ud q2 rfl rfl q4 (aM (by omega)) rfl rfl rfl⟩
     | false=>exact ⟨((true,tot),T3),⟨q3,rfl,(hI true).1,(hI true).2⟩,bAt (by omega) hx hd.ud q2 rfl rfl q4 (aM (by omega)) rfl rfl rfl rfl⟩
    ·have hI:∀ q:Bool,-1-36000*((i+1:Nat):Int)≤tot+m∧tot+m≤360000+43200000*((i+1:Nat):Int):=fun _=>by omega
     cases out with
     | true=>exact ⟨((true,tot+m),T3),⟨q3,rfl,(hI true).1,(hI true).2⟩,bAu (by omega) hx hd.ud q2 rfl rfl q4 (by show inR (tot+m);unfold inR;omega) (aM (by omega)) rfl rfl rfl rfl⟩
     | false=>exact ⟨((false,tot+m),T3),⟨q3,rfl,(hI true).1,(hI true).2⟩,bAv (by omega) hx hd.ud q2 rfl rfl q4 (by show inR (tot+m);unfold inR;omega) (aM (by omega)) rfl rfl rfl rfl rfl⟩)
  (fun acc hI=>aQn (by omega)) (acc:=((s1 == -1,s1),T)) ⟨hT,by simp,by dsimp only;omega,by dsimp only;omega⟩
 obtain ⟨⟨out,tot⟩,T1⟩:=acc;dsimp only at h1 h2 h3
 rw [List.take_length] at h2
 have e:aDn dl oc dc s0 s1=(out,tot):=h2.symm;unfold totM;rw [e];cases out with
 | true=>exact ⟨T1,h1,bVb h3 rfl⟩
 | false=>exact ⟨T1,h1,bVc h3 rfl (by simp) (by simp [yS];omega)⟩
theorem qV(hd:bS dc){base:Nat}:FV Tp 46 [qY dl sk dc] base (.own base) [(base,.row 3 (aU dl dc).length ((aU dl dc).map aA))]:=by
 have hlen:=hd.len;have hov:=aIf;obtain ⟨acc,⟨h1,h2⟩,h3⟩:=aF.ex (P:=Tp) (k:=0) (b:=sub (cd Tryz.f46) cf) (e := .exit 0) (fun i (a:List Int × Lqb)=>iY dl sk dc a.1.length (a.1.map aA) i (aK a.2) a.2.length)
  (fun a=>iY dl sk dc a.1.length (a.1.map aA) dc.length (aK a.2) a.2.length)
  (fun i a=>bY dl [] dc a.2∧a.1=((dc.take i).filter (oW dl dc)).map dN) (by simp) dc.length
  (fun i acc hi hI=>by
   obtain ⟨o,T1⟩:=acc;obtain ⟨h1,h2⟩:=hI;dsimp only at h1 h2
   have hm:=eT hi;obtain ⟨a,k,c,d,e,f,hy⟩:=Az (hd.ud _ hm);have hx:dc[i]? = some [a,k,c,d,e,f]:=by rw [Ap hi,hy]
   rw [hy] at hm
   have ho:o.length≤1000:=by
    rw [h2,A8];have:=aBa (oW dl dc) (dc.take i);rw [nI] at this;omega
   have et:((dc.take (i+1)).filter (oW dl dc)).map dN=o++if oW dl dc [a,k,c,d,e,f] then [a] else []:=by
    rw [List.take_add_one,hx,sD,eE,← h2]
    congr 1
    show (List.filter (oW dl dc) [[a,k,c,d,e,f]]).map dN=_;cases hq:oW dl dc [a,k,c,d,e,f] <;> simp [hq]
   rw [et];obtain ⟨T2,z0,z1,z2,z3,z4,z5,q1,_,q2⟩:=bMt (sk:=sk) hd hov hm h1;obtain ⟨T3,q3,q4⟩:=bGr (sk:=sk) hd hov hm T2 q1;cases ha:gF k with
   | false =>
    have hb:oW dl dc [a,k,c,d,e,f]=false:=by unfold oW;rw [show gF (dK [a,k,c,d,e,f])=false from ha,Bool.false_and]
    rw [hb];exact ⟨(o,T2),⟨q1,by simp⟩,bAz (by omega) hx hd.ud q2 ha (aM (by omega)) rfl rfl rfl⟩
   | true =>
    have hb:oW dl dc [a,k,c,d,e,f]=(cZ dl [] dc [a,k,c,d,e,f] && (tW dl [] dc [a,k,c,d,e,f]).isNone):=by unfold oW;rw [show gF (dK [a,k,c,d,e,f])=true from ha,gU]
    rw [hb];cases hc:cZ dl [] dc [a,k,c,d,e,f] with
    | false =>
     rw [hc] at q4
     exact ⟨(o,T3),⟨q3,by simp⟩,bAy (by omega) hx hd.ud q2 ha q4 rfl (aM (by omega)) rfl rfl rfl⟩
    | true =>
     rw [hc] at q4
     cases hr:tW dl [] dc [a,k,c,d,e,f] with
     | some z =>
      rw [hr] at q2
      exact ⟨(o,T3),⟨q3,by simp⟩,bAx (by omega) hx hd.ud q2 ha q4 rfl rfl (aM (by omega)) rfl rfl rfl⟩
     | none =>
      rw [hr] at q2
      exact ⟨(o++[a],T3),⟨q3,by simp⟩,bAw (o:=o) (o':=o++[a]) (by omega) hx hd.ud q2 ha q4 rfl rfl ⟨rfl,by omega⟩ (aM (by omega)) (by simp) (by simp) rfl rfl rfl⟩)
  (fun acc hI=>bBa (by omega)) (acc:=([],[])) ⟨bY.nil,by simp⟩
 obtain ⟨o,T1⟩:=acc;dsimp only at h1 h2 h3
 rw [List.take_length] at h2
 rw [show aU dl dc=o from h2.symm]
 exact bVd h3
end
end
section
variable {u0 u1 u2 u3 u4 u5 x0 x1 x2 x3 x4 x5 u0'0 u1'1 u2'2 u3'3 u4'4 u5'5:Int}{base:Nat}
variable {dl:Int}{sk dc:Lqq}

noncomputable abbrev aBz:Code:=sub (cd Tryz.f134) [1,0,0,0]
theorem bGe:((0:Int) != 0)=false:=by first | decide | simp
theorem bUn{bib y0 y1:Int}(h0:cF dl sk dc)(h1:uni 2 (aB sk)∧(aB sk).length≤1000)(h2:(aL (aB sk) 0).length≤1000)(h3:(0:Int)≤(bI (fun x=>decide (bib=x)) (aL (aB sk) 0)))(h4:(aB sk)[(bI (fun x=>decide (bib=x)) (aL (aB sk) 0)).toNat]? = some [y0,y1])(h5:0≤(bI (fun x=>decide (bib=x)) (aL (aB sk) 0)))(h6:uni 2 (aB sk)):FV Tp 129 [(.p (.agg (dX dl sk dc))),(pI bib)] base (.tup [(.rp (aR dl (aB sk) (aB dc)) 0),(.p (.agg [(aA y0),(aA y1)])),(pI 0)]) []:=have k1:=fk 2 (jR dl sk dc h0) rfl;have k2:=fk 2 (mM dl (aB sk) (aB dc) h1) rfl;FV.fi func129 [k1.o,bF,.x (.agg (dX dl (aB sk) (aB dc))),k2.o,.c (pI (bI (fun x=>decide (bib=x)) (aL (aB sk) 0))) [],bF,.x (.sl ((aB sk).length) ((aB sk).flatten.map aA)),.x (.agg [(aA y0),(aA y1)])] (gfz h6 h5 h4 (gr (.sl ((aB sk).length) ((aB sk).flatten.map aA)) (gc (bA h3) (gt (FC Tp 20 [(.own 2),(pI bib)] [(2,(.row 3 ((aL (aB sk) 0).length) ((aL (aB sk) 0).map aA)))] 3 (pI (bI (fun x=>decide (bib=x)) (aL (aB sk) 0))) []) (fv (aBp (aL (aB sk) 0) bib h2)) (gc k2 (gr (.agg (dX dl (aB sk) (aB dc))) (gt (0+3≤(aR dl (aB sk) (aB dc)).length) (by first | decide | simp) (gc bGe (gc k1 gn)))))))))
theorem bUo(h0:cF dl sk dc)(h1:bS (aB dc)):FV Tp 13 [(.p (.agg (dX dl sk dc)))] base (.tup [(.p (aG (aU dl (aB dc)))),(pI 0)]) []:=have k1:=fk 1 (jR dl sk dc h0) rfl;have k2:=fk 1 (qV (dl:=dl) (sk:=(aB sk)) (dc:=(aB dc)) h1) rfl;FV.frz (FMM.fi 0 ⟨[],[],[1],[]⟩ func13 [k1.o,bF,k2.o] (gc k2 (gc bGe (gc k1 gn)))) (by kernel_rfl)
def iW(dl:Int)(sk dc:Lqq)(u0 u1 u2 u3 u4 u5:Int):St:=⟨fr 26 [(0,(.rp (aR dl sk dc) 0)),(3,(.ptr 0 0))],[some (.box 84 [(pI u0),(pI u1),(pI u2),(pI u3),(pI u4),(pI u5)])]⟩
theorem bUp(hl0:aF Tp 0 aBz (iW dl sk dc x0 x1 x2 x3 x4 x5) (.exit 0) (iW dl sk dc u0'0 u1'1 u2'2 u3'3 u4'4 u5'5)):FV Tp 134 [(.rp (aR dl sk dc) 0),(.p (dcE x0 x1 x2 x3 x4 x5))] base (pI u3'3) []:=FV.fi func134 [hl0.k 4 (gI [1,2,4,20] [0])] (gc hl0.code gn)
theorem bUq(hl0:aF Tp 0 aBz (iW dl sk dc x0 x1 x2 x3 x4 x5) .ret (cC (iW dl sk dc u0'0 u1'1 u2'2 u3'3 u4'4 u5'5) [(4,(pI 0))])):FV Tp 134 [(.rp (aR dl sk dc) 0),(.p (dcE x0 x1 x2 x3 x4 x5))] base (pI 0) []:=FV.fi func134 [hl0.k 4 (gI [1,2,4,20] [0])] (gc hl0.code gn)
section
variable(h0:(decide (u1≤4))=false)(h1:bV .i64 (atF dc.reverse) (.int .i64 u5))
include h0 h1
theorem bAj{Aa Ab Ac Ad Ae Af:Int}(h2:(cV (atF dc.reverse) (.int .i64 u5))=true)(h3:eL (atF dc.reverse) (.int .i64 u5)=some (dcE Aa Ab Ac Ad Ae Af)):aC Tp 0 aBz (iW dl sk dc u0 u1 u2 u3 u4 u5) .normal (iW dl sk dc Aa Ab Ac Ad Ae Af):=have k1:=fk 1 (dQ u1) rfl;aC.fi (gI [1,2,4,20] [0]) [k1.o,bT,.x (.mp (atF dc.reverse)),bT,.x (dcE Aa Ab Ac Ad Ae Af)] (gc h3 (gc h2 (gc h1 (gr (.mp (atF dc.reverse)) (gc (bZ h0) (gc k1 gn))))))
theorem aFo(h2:(cV (atF dc.reverse) (.int .i64 u5))=false):aC Tp 0 aBz (iW dl sk dc u0 u1 u2 u3 u4 u5) .ret (cC (iW dl sk dc u0 u1 u2 u3 u4 u5) [(4,(pI 0))]):=have k1:=fk 1 (dQ u1) rfl;aC.fi (gI [1,2,5,19] [0]) [k1.o,bT,.x (.mp (atF dc.reverse)),bF] (gc h2 (gc h1 (gr (.mp (atF dc.reverse)) (gc (bZ h0) (gc k1 gn)))))
end
theorem aFp(h0:(decide (u1≤4))=true):aC Tp 0 aBz (iW dl sk dc u0 u1 u2 u3 u4 u5) (.exit 0) (iW dl sk dc u0 u1 u2 u3 u4 u5):=have k1:=fk 1 (dQ u1) rfl;aC.fi (gI [1,2,4,20] [0]) [k1.o,bF] (gc (aV h0) (gc k1 gn))
end
section
def bGa(sk:Lqq)(bib:Int):Int:=bI (fun x=>decide (bib=x)) (aL sk 0)
theorem bUl{dl:Int}{sk dc:Lqq}(h:cF dl sk dc):uni 2 (aB sk)∧(aB sk).length≤1000∧(aL (aB sk) 0).length≤1000:=by
 have:=h.len;refine ⟨kW h.us,by rw [fB];omega,by rw [lW,fB];omega⟩
theorem bGb{dl:Int}{sk dc:Lqq}(h:cF dl sk dc){bib:Int}{i:Nat}{s0 s1:Int}(hp:bGa (aB sk) bib=(i:Int))(hs:(aB sk)[i]? = some [s0,s1]){base:Nat}:FV Tp 129 [.p (.agg (dX dl sk dc)),.p (aA bib)] base (.tup [qY dl (aB sk) (aB dc),.p (.agg [aA s0,aA s1]),.p (aA 0)]) []:=by
 obtain ⟨h1,h2,h3⟩:=bUl h;have Gy:bI (fun x=>decide (bib=x)) (aL (aB sk) 0)=(i:Int):=hp
 exact bUn h ⟨h1,h2⟩ h3 (by rw [Gy];omega) (by rw [Gy];simpa using hs) (by rw [Gy];omega) h1
theorem bGc{dl:Int}{sk dc:Lqq}(h:cF dl sk dc){base:Nat}:FV Tp 13 [.p (.agg (dX dl sk dc))] base (.tup [.p (aG (aU dl (aB dc))),.p (aA 0)]) []:=bUo h (lF h)
theorem aTy{q:Lqq}(hq:(q.map dN).Nodup):atF q=q.map fun x=>(.int .i64 (dN x),sI x):=by
 have key:∀ (q p:Lqq),((p++q).map dN).Nodup→q.foldl jO (p.map fun x=>(.int .i64 (dN x),sI x))=(p++q).map fun x=>(.int .i64 (dN x),sI x):=by
  intro q
  induction q with
  | nil=>intro p _;simp
  | cons x q ih =>
   intro p h;rw [wI];have hn:cV (p.map fun x=>((.int .i64 (dN x),sI x):Value × PV)) (.int .i64 (dN x))=false:=by
    unfold cV;rw [List.any_eq_false];intro e he;obtain ⟨y,hy,rfl⟩:=dH.1 he;rw [eE,List.nodup_append] at h
    have:=h.2.2 (dN y) (dH.2 ⟨y,hy,rfl⟩) (dN x) (by simp)
    simpa [gS] using this
   have hst:jO (p.map fun x=>((.int .i64 (dN x),sI x):Value × PV)) x=(p.map fun x=>((.int .i64 (dN x),sI x):Value × PV))++[(.int .i64 (dN x),sI x)]:=by
    unfold jO;rw [hn,if_neg (by simp)]
   rw [hst];have e:(p.map fun x=>((.int .i64 (dN x),sI x):Value × PV))++[(.int .i64 (dN x),sI x)]=(p++[x]).map fun x=>((.int .i64 (dN x),sI x):Value × PV):=by simp
   have e2:p++x::q=(p++[x])++q:=by simp
   rw [e,ih (p++[x]) (by rw [← e2];exact h),e2]
 exact key q [] (by simpa using hq)
theorem aLk{dc:Lqq}(h:bS dc):(dc.reverse.map dN).Nodup:=by
 rw [List.map_reverse,List.Nodup,List.pairwise_reverse,List.pairwise_map];exact h.up.imp fun h=>by omega
theorem vH{dc:Lqq}(h:bS dc){n:Int}(hn:inR n):bV .i64 (atF dc.reverse) (.int .i64 n):=by
 have ha:wY (atF dc.reverse):=bHd fun x hx=>by have:=eR h (aBc.1 hx);omega
 refine ⟨ha.ky,?_,ha.nd⟩;show (decide (IntKind.i64=IntKind.i64) && (Lit.int .i64 n).wf)=true;have:(Lit.int .i64 n).wf=true:=by
  have e1:IntKind.i64.min = -9223372036854775808:=rfl;have e2:IntKind.i64.max=9223372036854775807:=rfl;unfold inR at hn
  show (decide _ && decide _)=true;rw [Bg,decide_eq_true_eq,decide_eq_true_eq,e1,e2];omega
 rw [this];rfl
theorem aQj{dc:Lqq}(h:bS dc){x:List Int}(hx:x∈dc):cV (atF dc.reverse) (.int .i64 (dN x))=true∧eL (atF dc.reverse) (.int .i64 (dN x))=some (sI x):=by
 rw [aTy (aLk h)];have hf:dc.reverse.find? (fun y=>decide (dN y=dN x))=some x:=by
  cases hf:dc.reverse.find? (fun y=>decide (dN y=dN x)) with
  | none =>
   have:=aBb.1 hf x (aBc.2 hx);simp at this
  | some y =>
   have h1:=uY hf;have h2:dN y=dN x:=by simpa using aOj hf
   rw [zB h (aBc.1 h1) hx h2]
 constructor
 ·unfold cV
  rw [List.any_map];exact List.any_eq_true.2 ⟨x,aBc.2 hx,by simp [gS]⟩
 ·unfold eL
  rw [List.find?_map];have e:(fun e:Value × PV=>decide (gS e.1=gS (Value.int IntKind.i64 (dN x)))) ∘ (fun x:List Int=>((Value.int .i64 (dN x),sI x):Value × PV))=fun y=>decide (dN y=dN x):=rfl
  rw [e,hf];rfl
theorem aTz{dc:Lqq}(h:bS dc){n:Int}(hn:∀ x∈dc,dN x≠n):cV (atF dc.reverse) (.int .i64 n)=false:=by
 rw [aTy (aLk h)];unfold cV;rw [List.any_map,List.any_eq_false];intro x hx;have:=hn x (aBc.1 hx);show ¬ (decide (dN x=n))=true;simpa using this
def ofN(dc:Lqq)(n:Int):Option (List Int):=dc.find? fun x=>dN x == n
theorem vI{dc:Lqq}{n:Int}{x:List Int}(h:ofN dc n=some x):x∈dc∧dN x=n:=⟨uY h,by simpa using aOj h⟩
theorem aLl{dc:Lqq}{n:Int}(h:ofN dc n=none):∀ x∈dc,dN x≠n:=fun x hx=>by simpa using aBb.1 h x hx
theorem aUa{dc:Lqq}(hd:bS dc){x:List Int}(hx:x∈dc):ofN dc (dN x)=some x:=by
 cases h:ofN dc (dN x) with
 | none=>exact absurd rfl (aLl h x hx)
 | some y=>obtain ⟨h1,h2⟩:=vI h;rw [zB hd h1 hx h2]
def sR(dc:Lqq):Nat→List Int→Int
 | 0,_=>0
 | k+1,x=>if dK x≤4 then dB x else match ofN dc (dAb x) with
  | some y=>sR dc k y
  | none=>0
def vJ(dc:Lqq)(x:List Int):Int:=sR dc (10000+1) x
theorem bUm{dl:Int}{sk dc:Lqq}(hd:bS dc):∀ (k:Nat) (a b c d e f:Int),inR f→([a,b,c,d,e,f]∈dc∨b≤4∨∀ y∈dc,dN y≠f)→a<(k:Int) →
  (∃ a' b' c' d' e' f',sR dc (k+1) [a,b,c,d,e,f]=d'∧aF Tp 0 (sub (cd Tryz.f134) [1,0,0,0]) (iW dl sk dc a b c d e f) (.exit 0) (iW dl sk dc a' b' c' d' e' f')) ∨
  (sR dc (k+1) [a,b,c,d,e,f]=0∧∃ a' b' c' d' e' f',aF Tp 0 (sub (cd Tryz.f134) [1,0,0,0]) (iW dl sk dc a b c d e f) .ret (cC (iW dl sk dc a' b' c' d' e' f') [(4,.p (aA 0))])):=by
 intro k
 induction k with
 | zero =>
  intro a b c d e f hf hm hk
  by_cases h4:b≤4
  ·refine .inl ⟨a,b,c,d,e,f,?_,.exit (aFp (decide_eq_true h4)) (by simp)⟩
   unfold sR;rw [if_pos (show dK [a,b,c,d,e,f]≤4 from h4)];rfl
  ·rcases hm with hm | hm | hm
   ·have:1≤a:=(eR hd hm).1
    omega
   ·exact absurd hm h4
   ·refine .inr ⟨?_,a,b,c,d,e,f,.exit (aFo (decide_eq_false h4) (vH hd hf) (aTz hd hm)) (by simp)⟩
    unfold sR;rw [if_neg (show ¬ dK [a,b,c,d,e,f]≤4 from h4)]
    have:ofN dc (dAb [a,b,c,d,e,f])=none:=by
     cases h:ofN dc (dAb [a,b,c,d,e,f]) with
     | none=>rfl
     | some y=>exact absurd (vI h).2 (hm y (vI h).1)
    rw [this]
 | succ k ih =>
  intro a b c d e f hf hm hk
  by_cases h4:b≤4
  ·refine .inl ⟨a,b,c,d,e,f,?_,.exit (aFp (decide_eq_true h4)) (by simp)⟩
   unfold sR;rw [if_pos (show dK [a,b,c,d,e,f]≤4 from h4)];rfl
  ·have hu:sR dc (k+1+1) [a,b,c,d,e,f]=match ofN dc (dAb [a,b,c,d,e,f]) with | some y=>sR dc (k+1) y | none=>0:=by
    conv=>lhs;unfold sR
    rw [if_neg (show ¬ dK [a,b,c,d,e,f]≤4 from h4)]
   rw [hu];cases h:ofN dc (dAb [a,b,c,d,e,f]) with
   | none=>exact .inr ⟨rfl,a,b,c,d,e,f,.exit (aFo (decide_eq_false h4) (vH hd hf) (aTz hd (aLl h))) (by simp)⟩
   | some y =>
    obtain ⟨h1,h2⟩:=vI h
    rcases hm with hm | hm | hm
    ·obtain ⟨h3,h5⟩:=aQj hd h1
     rw [h2] at h3 h5
     have ho:=hd.ord _ hm;unfold orB at ho
     rw [if_neg (show ¬ [a,b,c,d,e,f].getD 1 0≤4 from h4)] at ho
     have Iz:=bO.1 ho;have ho3:f≤a-1:=Iz.2;obtain ⟨y0,y1,y2,y3,y4,y5,rfl⟩:=Az (hd.ud y h1);have Eo:y0=f:=h2;have R8:=kX hd _ h1;have hst:=bAj (dl:=dl) (sk:=sk) (dc:=dc) (u0:=a) (u1:=b) (u2:=c) (u3:=d) (u4:=e) (u5:=f) (decide_eq_false h4) (vH hd hf) h3 h5
     rcases ih y0 y1 y2 y3 y4 y5 (by have q1:0≤y5:=R8.1;have q2:y5≤9998:=R8.2;unfold inR;omega) (.inl h1) (by omega) with ⟨a',b',c',d',e',f',q1,q2⟩ | ⟨q1,a',b',c',d',e',f',q2⟩
     ·exact .inl ⟨a',b',c',d',e',f',q1,.step hst q2⟩
     ·exact .inr ⟨q1,a',b',c',d',e',f',.step hst q2⟩
    ·exact absurd hm h4
    ·exact absurd h2 (hm y h1)
theorem bGd{dl:Int}{sk dc:Lqq}(hd:bS dc){a b c d e f:Int}(hf:inR f)(hm:[a,b,c,d,e,f]∈dc∨b≤4∨∀ y∈dc,dN y≠f)(ha:a≤9999){base:Nat}:FV Tp 134 [qY dl sk dc,.p (.agg [aA a,aA b,aA c,aA d,aA e,aA f])] base (.p (aA (vJ dc [a,b,c,d,e,f]))) []:=by
 unfold vJ
 rcases bUm (dl:=dl) (sk:=sk) hd 10000 a b c d e f hf hm (by omega) with ⟨a',b',c',d',e',f',q1,q2⟩ | ⟨q1,a',b',c',d',e',f',q2⟩
 ·rw [q1];exact bUp q2
 ·rw [q1];exact bUq q2
end
section
section
variable {α:Type}

def mv(A:List α)(x:α)(j:Nat)(R:List α):List α:=A.take j++x::(A.drop j++R)

theorem xC(A:List α)(x:α)(j:Nat)(R:List α)(hj:j≤A.length):(mv A x j R).length=A.length+1+R.length:=by
 unfold mv;simp;omega

theorem aIr(A:List α)(x:α)(j:Nat)(R:List α)(hj:j≤A.length)(t:Nat) :
  (mv A x j R)[t]? = if t<j then A[t]? else if t=j then some x else if t≤A.length then A[t-1]? else R[t-A.length-1]? := by
 unfold mv
 by_cases h1:t<j
 ·rw [if_pos h1,aAy (by simp;omega),List.getElem?_take_of_lt h1]
 ·rw [if_neg h1,aAx (by simp;omega)]
  have hl:(A.take j).length=j:=by simp;omega
  rw [hl]
  by_cases h2:t=j
  ·rw [if_pos h2,show t-j=0 by omega];rfl
  ·rw [if_neg h2,show t-j=(t-j-1)+1 by omega,List.getElem?_cons_succ]
   by_cases h3:t≤A.length
   ·rw [if_pos h3,aAy (by simp;omega),List.getElem?_drop]
    congr 1;omega
   ·rw [if_neg h3,aAx (by simp;omega)]
    congr 1
    simp;omega

theorem bOc(A:List α)(x:α)(j:Nat)(R:List α)(hj:j≤A.length)(h0:0<j)(y:α)(hy:A[j-1]? = some y) :
  ((mv A x j R).set j y).set (j-1) x=mv A x (j-1) R:=by
 have hl:=xC A x j R hj;apply List.ext_getElem?;intro t;rw [List.getElem?_set,List.getElem?_set,aIr A x (j-1) R (by omega),aIr A x j R hj]
 simp only [nJ,hl]
 by_cases h1:j-1=t
 ·subst h1
  rw [if_pos rfl,if_pos (by omega),if_neg (by omega),if_pos rfl]
 ·rw [if_neg h1]
  by_cases h2:j=t
  ·subst h2
   rw [if_pos rfl,if_pos (by omega),if_neg (by omega),if_neg (by omega),if_pos (by omega),hy]
  ·rw [if_neg h2]
   by_cases h3:t<j
   ·rw [if_pos h3,if_pos (by omega)]
   ·rw [if_neg h3,if_neg (by omega:¬ t=j),if_neg (by omega:¬ t<j-1),if_neg (by omega:¬ t=j-1)]

def kG(lt:α→α→Bool)(x:α)(A:List α):Nat:=(A.reverse.dropWhile (lt x)).length
def ins(lt:α→α→Bool)(A:List α)(x:α):List α:=A.take (kG lt x A)++x::A.drop (kG lt x A)
def isort(lt:α→α→Bool)(l:List α):List α:=l.foldl (ins lt) []

theorem jZ{p:α→Bool}:∀ (l r:List α),(∀ x∈l,p x=true)→(l++r).dropWhile p=r.dropWhile p
 | [],_,_=>rfl
 | x::l,r,h=>by
  rw [List.cons_append,List.dropWhile_cons,if_pos (h x (by simp))]
  exact jZ l r (fun y hy=>h y (by simp [hy]))

theorem aFt(lt:α→α→Bool)(x:α)(A:List α)(j:Nat)(hj:j≤A.length)(h:∀ t (_:t<A.length),j≤t→lt x A[t]=true)
  (h2:j=0∨∃ y,A[j-1]? = some y∧lt x y=false):kG lt x A=j:=by
 unfold kG;have e:A.reverse=(A.drop j).reverse++(A.take j).reverse:=by rw [← List.reverse_append,aWn]
 rw [e,jZ]
 ·rcases h2 with h0 | ⟨y,hy,hlt⟩
  ·subst h0;simp
  ·by_cases h0:j=0
   ·subst h0;simp
   ·have e2:A.take j=A.take (j-1)++[y]:=by
     rw [show j=(j-1)+1 by omega,List.take_add_one,Nat.add_sub_cancel,hy];rfl
    have hl:(A.take (j-1)).length=j-1:=by simp;omega
    rw [e2,List.reverse_append];show ((y::(A.take (j-1)).reverse).dropWhile (lt x)).length=j;rw [List.dropWhile_cons,hlt];simp;omega
 ·intro z hz
  rw [aBc] at hz
  obtain ⟨t,ht,rfl⟩:=List.getElem_of_mem hz;rw [List.getElem_drop];exact h (j+t) (by simp at ht;omega) (by omega)

theorem aRp(lt:α→α→Bool)(A:List α)(x:α):(ins lt A x).length=A.length+1:=by
 unfold ins;simp;have:kG lt x A≤A.length:=by
  unfold kG;have h2:((A.reverse).dropWhile (lt x)).length≤A.reverse.length:=(List.dropWhile_sublist _).length_le;simpa using h2
 omega

theorem bWk(A:List α)(x:α)(R:List α):mv A x A.length R=A++x::R:=by unfold mv;simp
theorem bHm(lt:α→α→Bool)(A:List α)(x:α)(R:List α):mv A x (kG lt x A) R=ins lt A x++R:=by unfold mv ins;simp

theorem vQ(lt:α→α→Bool)(l:List α):(isort lt l).length=l.length:=by
 unfold isort;have:∀ (l A:List α),(l.foldl (ins lt) A).length=A.length+l.length:=by
  intro l
  induction l with
  | nil=>intro A;simp
  | cons x r ih=>intro A;rw [wI,ih,aRp];simp;omega
 rw [this];simp

theorem aRq(lt:α→α→Bool)(l:List α)(k:Nat)(h:k<l.length):isort lt (l.take (k+1))=ins lt (isort lt (l.take k)) l[k]:=by
 unfold isort;rw [List.take_succ_eq_append_getElem h,aDk];rfl
end
theorem Ed{x:List Int}(h:x.length=3):∃ a b c,x=[a,b,c]:=by
 match x,h with
 | [a,b,c],_=>exact ⟨a,b,c,rfl⟩
theorem sC{α:Type}(lt:α→α→Bool)(l:List α)(y:α):y∈isort lt l↔y∈l:=by
 unfold isort;have : ∀ (l A:List α),y∈l.foldl (ins lt) A↔y∈A∨y∈l:=by
  intro l
  induction l with
  | nil=>intro A;simp
  | cons x r ih =>
   intro A;rw [wI,ih];have:y∈ins lt A x↔y∈A∨y=x:=by
    unfold ins;rw [eU,gG];constructor
    ·rintro (h | h | h)
     ·exact Or.inl (List.mem_of_mem_take h)
     ·exact Or.inr h
     ·exact Or.inl (List.mem_of_mem_drop h)
    ·rintro (h | h)
     ·rw [← aWn (kG lt x A) A,eU] at h
      rcases h with h | h
      ·exact Or.inl h
      ·exact Or.inr (Or.inr h)
     ·exact Or.inr (Or.inl h)
   rw [this,gG];constructor
   ·rintro ((h | h) | h) <;> simp [h]
   ·rintro (h | h | h) <;> simp [h]
 rw [this];simp

section
variable {α:Type}
theorem xD(lt:α→α→Bool)(A:List α)(x:α):∃ B D:List α,A=B++D∧ins lt A x=B++x::D∧(∀ d∈D,lt x d=true)∧(B=[]∨∃ B' h,B=B'++[h]∧lt x h=false):=by
 have hA:A=(A.reverse.dropWhile (lt x)).reverse++(A.reverse.takeWhile (lt x)).reverse:=by
  rw [← List.reverse_append,List.takeWhile_append_dropWhile,List.reverse_reverse]
 generalize hdw:A.reverse.dropWhile (lt x)=dw at hA
 generalize htw:A.reverse.takeWhile (lt x)=tw at hA
 have hp:kG lt x A=dw.reverse.length:=by unfold kG;rw [hdw,List.length_reverse]
 refine ⟨dw.reverse,tw.reverse,hA,?_,fun d hd => ?_,?_⟩
 ·unfold ins
  rw [hp]
  conv=>lhs;rw [hA]
  rw [List.take_left',List.drop_left'] <;> rfl
 ·rw [aBc,← htw] at hd
  exact fD.1 List.all_takeWhile d hd
 ·cases dw with
  | nil=>exact .inl rfl
  | cons h r =>
   refine .inr ⟨r.reverse,h,by simp,?_⟩
   have:=List.head_dropWhile_not (lt x) (l:=A.reverse) (by rw [hdw];simp)
   simp only [hdw,List.head_cons] at this
   simpa using this
theorem aMc(lt:α→α→Bool)(A:List α)(x:α):(ins lt A x).Perm (x::A):=by
 obtain ⟨B,D,h1,h2,_⟩:=xD lt A x;rw [h2,h1];exact List.perm_middle
theorem aRr(lt:α→α→Bool)(l:List α):(isort lt l).Perm l:=by
 unfold isort;have:∀ (l A:List α),(l.foldl (ins lt) A).Perm (A++l):=by
  intro l
  induction l with
  | nil=>intro A;simp
  | cons x r ih =>
   intro A;rw [wI];refine (ih _).trans (((aMc lt A x).append_right r).trans ?_);exact List.perm_middle.symm
 simpa using this l []
theorem aRs{f:α→Int}{lt:α→α→Bool}(hlt:∀ x y,lt x y=decide (f x<f y)){A:List α}(x:α)(hs:A.Pairwise (fun a b=>f a≤f b)):(ins lt A x).Pairwise (fun a b=>f a≤f b):=by
 obtain ⟨B,D,rfl,h2,h3,h4⟩:=xD lt A x;rw [h2];obtain ⟨s1,s2,s3⟩:=List.pairwise_append.1 hs;have hB:∀ b∈B,f b≤f x:=fun b hb=>by
  rcases h4 with rfl | ⟨B',h,rfl,hx⟩
  ·simp at hb
  ·rw [hlt,decide_eq_false_iff_not] at hx
   rcases eU.1 hb with hb | hb
   ·have:=(List.pairwise_append.1 s1).2.2 b hb h (by simp)
    omega
   ·simp at hb;subst hb;omega
 have hD:∀ d∈D,f x≤f d:=fun d hd=>by
  have:=h3 d hd;rw [hlt,decide_eq_true_eq] at this
  omega
 refine List.pairwise_append.2 ⟨s1,bJa.2 ⟨hD,s2⟩,fun a ha b hb => ?_⟩
 rcases gG.1 hb with rfl | hb
 ·exact hB a ha
 ·exact s3 a ha b hb
theorem oR{f:α→Int}{lt:α→α→Bool}(hlt:∀ x y,lt x y=decide (f x<f y))(l:List α):(isort lt l).Pairwise (fun a b=>f a≤f b):=by
 unfold isort;have:∀ (l A:List α),A.Pairwise (fun a b=>f a≤f b)→(l.foldl (ins lt) A).Pairwise (fun a b=>f a≤f b):=by
  intro l
  induction l with
  | nil=>intro A h;exact h
  | cons x r ih=>intro A h;rw [wI];exact ih _ (aRs hlt x h)
 exact this l [] .nil
end
section
variable {α:Type}
theorem aRt{f g:α→Int}{lt:α→α→Bool}(hlt:∀ x y,lt x y=decide (f x<f y)){A:List α}(x:α)(hs:A.Pairwise (fun a b=>f a<f b∨f a=f b∧g a<g b))(hg:∀ a∈A,g a<g x):(ins lt A x).Pairwise (fun a b=>f a<f b∨f a=f b∧g a<g b):=by
 obtain ⟨B,D,rfl,h2,h3,h4⟩:=xD lt A x;rw [h2];obtain ⟨s1,s2,s3⟩:=List.pairwise_append.1 hs;have hB:∀ b∈B,f b≤f x:=fun b hb=>by
  rcases h4 with rfl | ⟨B',h,rfl,hx⟩
  ·simp at hb
  ·rw [hlt,decide_eq_false_iff_not] at hx
   rcases eU.1 hb with hb | hb
   ·have:=(List.pairwise_append.1 s1).2.2 b hb h (by simp)
    omega
   ·simp at hb;subst hb;omega
 have hD:∀ d∈D,f x<f d:=fun d hd=>by
  have:=h3 d hd
  rwa [hlt,decide_eq_true_eq] at this
 refine List.pairwise_append.2 ⟨s1,bJa.2 ⟨fun d hd => .inl (hD d hd),s2⟩,fun a ha b hb => ?_⟩
 rcases gG.1 hb with rfl | hb
 ·have h5:=hB a ha
  have h6:=hg a (mD _ ha)
  by_cases e:f a=f b
  ·exact .inr ⟨e,h6⟩
  ·exact .inl (by omega)
 ·exact s3 a ha b hb
theorem aIs{f g:α→Int}{lt:α→α→Bool}(hlt:∀ x y,lt x y=decide (f x<f y))(l:List α)(hl:l.Pairwise (fun a b=>g a<g b)):(isort lt l).Pairwise (fun a b=>f a<f b∨f a=f b∧g a<g b):=by
 unfold isort;have:∀ (l A:List α),l.Pairwise (fun a b=>g a<g b)→(∀ a∈A,∀ x∈l,g a<g x)→A.Pairwise (fun a b=>f a<f b∨f a=f b∧g a<g b)→(l.foldl (ins lt) A).Pairwise (fun a b=>f a<f b∨f a=f b∧g a<g b):=by
  intro l
  induction l with
  | nil=>intro A _ _ h;exact h
  | cons x r ih =>
   intro A hl hA h;obtain ⟨h1,h2⟩:=bJa.1 hl;rw [wI];refine ih _ h2 (fun a ha y hy => ?_) (aRt hlt x h (fun a ha=>hA a ha x (jI ..)))
   rcases gG.1 ((aMc lt A x).mem_iff.1 ha) with rfl | ha
   ·exact h1 y hy
   ·exact hA a ha y (B7 _ hy)
 exact this l [] hl (fun a ha=>by simp at ha) .nil
end
end
section
variable {j x y Df Dh Bm C8 Cl Bi:Int}{L M l:Lqq}{i base:Nat}

noncomputable abbrev aMb:Code:=sub (cd Tryz.f214) [1,0,0,1,0,0,1,0,0]
noncomputable abbrev aUm:Code:=sub (cd Tryz.f214) [1,0,0]
theorem bWd{r0:Bool}(Ak:r0=(x != x)):FV Tp 124 [(pI x)] base (pB r0) []:=by
 subst Ak;exact FV.fi func124 [] gn
theorem xB(x:Int){base:Nat}:FV Tp 124 [.p (aA x)] base (pB false) []:=bWd (by simp)
theorem bWe(h0:x<y):FV Tp 62 [(pI x),(pI y)] base (pI (-1)) []:=FV.fi func62 [.c (pB false) [],.c (pB false) [],bF,bF,bT] (gc (eV h0) (gf (gf (gc (fk 0 (xB y) rfl) (gc (fk 0 (xB x) rfl) gn)))))
theorem bWf(h0:y≤x)(h1:y<x):FV Tp 62 [(pI x),(pI y)] base (pI 1) []:=FV.fi func62 [.c (pB false) [],.c (pB false) [],bF,bF,bF,bT] (gc (eV h1) (gc (bA h0) (gf (gf (gc (fk 0 (xB y) rfl) (gc (fk 0 (xB x) rfl) gn))))))
theorem bWg(h0:y≤x)(h1:x≤y):FV Tp 62 [(pI x),(pI y)] base (pI 0) []:=FV.fi func62 [.c (pB false) [],.c (pB false) [],bF,bF,bF,bF] (gc (bA h1) (gc (bA h0) (gf (gf (gc (fk 0 (xB y) rfl) (gc (fk 0 (xB x) rfl) gn))))))
def yU(x y:Int):Int:=if x<y then -1 else if y<x then 1 else 0
theorem bWh(x y:Int){base:Nat}:FV Tp 62 [.p (aA x),.p (aA y)] base (pI (yU x y)) []:=by
 unfold yU
 by_cases h1:x<y
 ·rw [if_pos h1];exact bWe h1
 ·rw [if_neg h1]
  by_cases h2:y<x
  ·rw [if_pos h2];exact bWf (by omega) h2
  ·rw [if_neg h2];exact bWg (by omega) (by omega)
def ltK(f:Nat)(x y:List Int):Bool:=decide (yU (x.getD f 0) (y.getD f 0)<0)
theorem aIq(f:Nat)(x y:List Int):ltK f x y=decide (x.getD f 0<y.getD f 0):=by
 unfold ltK yU;rw [decide_eq_decide]
 split
 ·omega
 ·split <;> omega
theorem aUn{a0 a1 a2 b0 b1 b2 r0:Int}(Ak:r0=(yU a2 b2)):FV Tp 97 [(.p (.agg [(aA a0),(aA a1),(aA a2)])),(.p (.agg [(aA b0),(aA b1),(aA b2)]))] base (pI r0) []:=by
 subst Ak;have k1:=fk 2 (bWh a2 b2) rfl;exact FV.fi func97 [k1.o] (gc k1 gn)
def lZ(l:Lqq)(i Ln:Nat)(Lc:List PV):St:=⟨fr 53 [(0,(.own 0)),(1,(pI 0)),(2,(pI (l.length:Int))),(3,(.fn 97 [] [])),(8,(pI (i:Int)))],[some (.row 63 Ln Lc)]⟩
theorem aUo{Aw:Nat}{L'1:Lqq}(hl0:aF Tp 1 aUm (lZ l 1 l.length (l.flatten.map aA)) (.exit 0) (lZ l Aw L'1.length (L'1.flatten.map aA))):FMM Tp 214 [(.own 0),(pI 0),(pI (l.length:Int)),(.fn 97 [] [])] [some (.row 63 l.length (l.flatten.map aA))] (.tup []) [some (.row 63 L'1.length (L'1.flatten.map aA))]:=FMM.fi 1 gE func214 [hl0.k 3 (gZ [4,4,9,44])] (gc hl0.code (gt (inR 1) (by show _∧_;omega) gn))
def jS(l:Lqq)(i:Nat)(j:Int)(Mn:Nat)(Mc:List PV):St:=⟨fr 53 [(0,(.own 0)),(1,(pI 0)),(2,(pI (l.length:Int))),(3,(.fn 97 [] [])),(8,(pI (i:Int))),(9,(pI j)),(12,(pI (i:Int))),(13,(pI (l.length:Int))),(14,(pB (decide ((i:Int)<(l.length:Int))))),(17,(pI (i:Int)))],[some (.row 63 Mn Mc)]⟩
theorem aRj{N0:Int}{M'101:Lqq}{i':Nat}{L':Lqq}(h0:(i:Int)<(l.length:Int))(hl1:aF Tp 1 aMb (jS l i (i:Int) L.length (L.flatten.map aA)) (.exit 2) (jS l i N0 M'101.length (M'101.flatten.map aA)))(h2:da i)(Ai:i'=(i+1))(Fz:L'.length=M'101.length)(F3:L'.flatten.map aA=(M'101.flatten.map aA)):aC Tp 1 aUm (lZ l i L.length (L.flatten.map aA)) .normal (lZ l i' L'.length (L'.flatten.map aA)):=by
 subst Ai;rw [Fz,F3];exact aC.fi (gZ [4,4,9,44]) [bT,hl1.k 5 (gZ cb)] (gc h2 (gc hl1.code (g0 h0)))
theorem aCl(h0:(l.length:Int)≤(i:Int)):aC Tp 1 aUm (lZ l i L.length (L.flatten.map aA)) (.exit 0) (lZ l i L.length (L.flatten.map aA)):=aC.fi (gZ [4,4,9,44]) [bF] (gc (bA h0) gn)
section
variable(h0:(0:Int)<j)(h1:M[j.toNat]? = some [Df,Dh,Bm])(h2:0≤j)(h3:uni 3 M)(h4:inR (j-1))(h5:M[(j-1).toNat]? = some [C8,Cl,Bi])(h6:0≤(j-1))
include h0 h1 h2 h3 h4 h5 h6
theorem aRk{j':Int}{M':Lqq}(h7:(yU Bm Bi)<0)(h8:[(aA C8),(aA Cl),(aA Bi)].length=3∧(j.toNat*3)+3≤(M.flatten.map aA).length)(h9:0≤(j-1)∧(j-1)<(M.length:Int))(B0:[(aA Df),(aA Dh),(aA Bm)].length=3∧((j-1).toNat*3)+3≤((M.flatten.map aA).take (j.toNat*3)++[(aA C8),(aA Cl),(aA Bi)]++(M.flatten.map aA).drop ((j.toNat*3)+3)).length)(Dx:j'=(j-1))(Qv:M'.length=M.length)(Qw:M'.flatten.map aA=(((M.flatten.map aA).take (j.toNat*3)++[(aA C8),(aA Cl),(aA Bi)]++(M.flatten.map aA).drop ((j.toNat*3)+3)).take ((j-1).toNat*3)++[(aA Df),(aA Dh),(aA Bm)]++((M.flatten.map aA).take (j.toNat*3)++[(aA C8),(aA Cl),(aA Bi)]++(M.flatten.map aA).drop ((j.toNat*3)+3)).drop (((j-1).toNat*3)+3))):aC Tp 1 aMb (jS l i j M.length (M.flatten.map aA)) .normal (jS l i j' M'.length (M'.flatten.map aA)):=by
 subst Dx;rw [Qv,Qw];exact aC.fi (gZ cb) (rT 5++[.x (.agg [(aA Df),(aA Dh),(aA Bm)])]++rT 5++[.x (.agg [(aA C8),(aA Cl),(aA Bi)]),bT,.c (pI (yU Bm Bi)) [],bT,bT,bT,.x (.agg [(aA C8),(aA Cl),(aA Bi)]),.x (.agg [(aA Df),(aA Dh),(aA Bm)])]) (gc h4 (gc B0 (gc h9 (gc h8 (gc (cW (i:=j) h2 h1) (gc (lV (i:=j.toNat) h3 h1) (gc (nK (i:=j.toNat) h3 h1) (gc (cW (i:=j) h2 h1) (gc (lV (i:=(j-1).toNat) h3 h5) (gc (nK (i:=(j-1).toNat) h3 h5) (gc (cW (i:=(j-1)) h6 h5) (Bc h4 (gc (eV h7) (Bc (eV h0) (gt (FC Tp 97 [(.p (.agg [(aA Df),(aA Dh),(aA Bm)])),(.p (.agg [(aA C8),(aA Cl),(aA Bi)]))] [] 1 (pI (yU Bm Bi)) []) (FV.fc (aUn rfl) rfl) (gc (eV h0) (gc (lV (i:=(j-1).toNat) h3 h5) (gc (nK (i:=(j-1).toNat) h3 h5) (gc (eV h0) (gc (cW (i:=(j-1)) h6 h5) (gc (eV h0) (gc h4 (Ar (eV h0) (gc (lV (i:=j.toNat) h3 h1) (gc (nK (i:=j.toNat) h3 h1) (gc (eV h0) (gc (cW (i:=j) h2 h1) (Ar (eV h0) (g0 h0)))))))))))))))))))))))))))))
theorem aRl(h7:(0:Int)≤(yU Bm Bi)):aC Tp 1 aMb (jS l i j M.length (M.flatten.map aA)) (.exit 2) (jS l i j M.length (M.flatten.map aA)):=aC.fi (gZ cb) (rT 5++[.x (.agg [(aA Df),(aA Dh),(aA Bm)])]++rT 5++[.x (.agg [(aA C8),(aA Cl),(aA Bi)]),bT,.c (pI (yU Bm Bi)) [],bT,bT,bF]) (gc (bA h7) (Bc (eV h0) (gt (FC Tp 97 [(.p (.agg [(aA Df),(aA Dh),(aA Bm)])),(.p (.agg [(aA C8),(aA Cl),(aA Bi)]))] [] 1 (pI (yU Bm Bi)) []) (FV.fc (aUn rfl) rfl) (gc (eV h0) (gc (lV (i:=(j-1).toNat) h3 h5) (gc (nK (i:=(j-1).toNat) h3 h5) (gc (eV h0) (gc (cW (i:=(j-1)) h6 h5) (gc (eV h0) (gc h4 (Ar (eV h0) (gc (lV (i:=j.toNat) h3 h1) (gc (nK (i:=j.toNat) h3 h1) (gc (eV h0) (gc (cW (i:=j) h2 h1) (Ar (eV h0) (g0 h0)))))))))))))))))
end
theorem aRm(h0:j≤0):aC Tp 1 aMb (jS l i j M.length (M.flatten.map aA)) (.exit 2) (jS l i j M.length (M.flatten.map aA)):=aC.fi (gZ cb) (rF 13) (Jn (bA h0) (Cn (bA h0) gn))
theorem bWi(l:Lqq)(i:Nat)(A R:Lqq)(hA:A.length<1000)(hi:i=A.length)(x0 x1 x2:Int)(hu:uni 3 (A++[x0,x1,x2]::R)):∀ m,m≤A.length→(∀ t (h:t<A.length),m≤t→ltK 2 [x0,x1,x2] A[t]=true) →
  aF Tp 1 aMb (jS l i (m:Int) (mv A [x0,x1,x2] m R).length ((mv A [x0,x1,x2] m R).flatten.map aA)) (.exit 2) (jS l i (kG (ltK 2) [x0,x1,x2] A:Int) (ins (ltK 2) A [x0,x1,x2]++R).length ((ins (ltK 2) A [x0,x1,x2]++R).flatten.map aA)):=by
 have huA:∀ y∈A,y.length=3:=fun y hy=>hu y (mD _ hy)
 have huM:∀ m,uni 3 (mv A [x0,x1,x2] m R):=fun m y hy=>by
  unfold mv at hy
  rcases eU.1 hy with h | h
  ·exact huA y (List.mem_of_mem_take h)
  ·rcases gG.1 h with rfl | h
   ·rfl
   ·rcases eU.1 h with h | h
    ·exact huA y (List.mem_of_mem_drop h)
    ·exact hu y (aAz _ (B7 _ h))
 intro m
 induction m with
 | zero =>
  intro _ hlt;have e:=aFt (ltK 2) [x0,x1,x2] A 0 (Nat.zero_le _) hlt (.inl rfl);rw [← bHm,e];exact .exit (aRm (by simp)) (by simp)
 | succ m ih =>
  intro hm hlt;have hy:=Ap (show m<A.length by omega)
  generalize A[m]=y at hy
  obtain ⟨y0,y1,y2,rfl⟩:=Ed (huA y (Bf hy));have e1:((m+1:Nat):Int).toNat=m+1:=by omega
  have e2:(((m+1:Nat):Int)-1).toNat=m:=by omega
  have hl:=xC A [x0,x1,x2] (m+1) R hm;have g1:(mv A [x0,x1,x2] (m+1) R)[m+1]? = some [x0,x1,x2]:=by rw [aIr A _ _ R hm];simp
  have g2:(mv A [x0,x1,x2] (m+1) R)[m]? = some [y0,y1,y2]:=by rw [aIr A _ _ R hm,if_pos (by omega)];exact hy
  by_cases hc:yU x2 y2<0
  ·have st:=vB (k:=3) (i:=m+1) (x:=[y0,y1,y2]) (huM (m+1)) (by omega) rfl
   have Gd:uni 3 ((mv A [x0,x1,x2] (m+1) R).set (m+1) [y0,y1,y2]):=aTb (huM _) rfl;have st2:=vB (k:=3) (i:=m) (x:=[x0,x1,x2]) Gd (by rw [nJ];omega) rfl
   have gm:((mv A [x0,x1,x2] (m+1) R).set (m+1) [y0,y1,y2])[m]? = some [y0,y1,y2]:=by rw [List.getElem?_set,if_neg (by omega)];exact g2
   have hsw:=bOc A [x0,x1,x2] (m+1) R hm (by omega) [y0,y1,y2] (by simpa using hy)
   rw [Nat.add_sub_cancel] at hsw
   simp only [gT,List.map_nil] at st st2
   refine .step (aRk (j:=((m+1:Nat):Int)) (j':=(m:Int)) (M':=mv A [x0,x1,x2] m R) (by omega) (by rw [e1];exact g1) (by omega) (huM _) (by show _∧_;omega) (by rw [e2];exact g2) (by omega) hc ⟨rfl,by rw [e1];exact nK (huM _) g1⟩ ⟨by omega,by omega⟩ ⟨rfl,?_⟩ (by omega) (by rw [hl,xC A _ _ R (by omega)]) ?_) (ih (by omega) fun t ht h1 => ?_)
   ·rw [e1,e2,st];exact nK Gd gm
   ·rw [e1,e2,st,st2,hsw]
   ·by_cases h2:t=m
    ·subst h2
     have h3:=hy;rw [Ap ht,Option.some.injEq] at h3
     rw [h3];simpa [ltK] using hc
    ·exact hlt t ht (by omega)
  ·have e:=aFt (ltK 2) [x0,x1,x2] A (m+1) hm hlt (.inr ⟨[y0,y1,y2],by simpa using hy,by simpa [ltK] using hc⟩)
   rw [← bHm,e];exact .exit (aRl (by omega) (by rw [e1];exact g1) (by omega) (huM _) (by show _∧_;omega) (by rw [e2];exact g2) (by omega) (by omega)) (by simp)
theorem bNy(l:Lqq)(hu:uni 3 l)(hn:l.length<1000):FMM Tp 214 [.own 0,.p (aA 0),.p (aA (l.length:Int)),.fn 97 [] []] [some (.row 63 l.length (l.flatten.map aA))] (.tup []) [some (.row 63 (isort (ltK 2) l).length ((isort (ltK 2) l).flatten.map aA))]:=by
 have hui:∀ i,uni 3 (isort (ltK 2) (l.take i)):=fun i y hy=>hu y (List.mem_of_mem_take ((sC (ltK 2) _ y).1 hy))
 have key:∀ d i,i+d=l.length→1≤i→aF Tp 1 aUm (lZ l i (isort (ltK 2) (l.take i)++l.drop i).length ((isort (ltK 2) (l.take i)++l.drop i).flatten.map aA)) (.exit 0) (lZ l l.length (isort (ltK 2) l).length ((isort (ltK 2) l).flatten.map aA)):=by
  intro d
  induction d with
  | zero =>
   intro i hi _;obtain rfl:i=l.length:=by omega
   rw [List.take_length,List.drop_length,List.append_nil];exact .exit (aCl (by omega)) (by simp)
  | succ d ih =>
   intro i hi h1;have hlt:i<l.length:=by omega
   have hx:=hu l[i] (eT hlt);generalize hxx:l[i]=x at hx
   obtain ⟨x0,x1,x2,rfl⟩:=Ed hx;have hAl:(isort (ltK 2) (l.take i)).length=i:=by rw [vQ,nI];omega
   have hdr:l.drop i=[x0,x1,x2]::l.drop (i+1):=by rw [aWm hlt,hxx]
   have hin:=bWi l i (isort (ltK 2) (l.take i)) (l.drop (i+1)) (by omega) hAl.symm x0 x1 x2 (by
    intro y hy
    rcases eU.1 hy with h | h
    ·exact hui i y h
    ·rcases gG.1 h with rfl | h
     ·rfl
     ·exact hu y (List.mem_of_mem_drop h)) i (by omega) (fun t ht h2=>by omega)
   have hmv:mv (isort (ltK 2) (l.take i)) [x0,x1,x2] i (l.drop (i+1))=isort (ltK 2) (l.take i)++l.drop i:=by
    have:=bWk (isort (ltK 2) (l.take i)) [x0,x1,x2] (l.drop (i+1));rw [hAl] at this;rw [this,hdr]
   have hsn:=aRq (ltK 2) l i hlt;rw [hxx] at hsn
   rw [hmv,← hsn] at hin
   exact .step (aRj (by omega) hin (by show _∧_;omega) rfl rfl rfl) (ih (i+1) (by omega) (by omega))
 rcases Nat.eq_zero_or_pos l.length with h0 | hp
 ·have:l=[]:=aDh h0
  subst this;exact aUo (aF.exit (aCl (l:=[]) (L:=[]) (i:=1) (by simp)) (by simp))
 ·have:=key (l.length-1) 1 (by omega) (by omega)
  have e1:isort (ltK 2) (l.take 1)++l.drop 1=l:=by
   cases l with
   | nil=>simp at hp
   | cons x r=>simp [isort,ins,kG]
  rw [e1] at this
  exact aUo this
def zD(l:Lqq):St:=⟨fr 63 [(0,(.own 0)),(1,(pI (l.length:Int))),(2,(.fn 97 [] [])),(6,(pI 20)),(7,(pI 0)),(8,(pI 20))],[some (.row 63 l.length (l.flatten.map aA))]⟩
def zE(l:Lqq):St:=⟨fr 63 [(0,(.own 0)),(1,(pI (l.length:Int))),(2,(.fn 97 [] [])),(6,(pI 20)),(7,(pI 0)),(8,(pI 20))],[some (.row 63 ((isort (ltK 2) l).length) ((isort (ltK 2) l).flatten.map aA))]⟩
theorem bNz(hl0:aF Tp 1 (sub (cd Tryz.f166) [1,1,0,0,0]) (zD l) (.exit 0) (zD l))(h1:uni 3 l)(h2:l.length<1000)(Bl:aF Tp 1 (sub (cd Tryz.f166) [1,1,1,1,0,0]) (zE l) (.exit 2) (zE l)):FMM Tp 166 [(.own 0),(pI (l.length:Int)),(.fn 97 [] [])] [some (.row 63 l.length (l.flatten.map aA))] (.tup []) [some (.row 63 ((isort (ltK 2) l).length) ((isort (ltK 2) l).flatten.map aA))]:=have k1:=mq [0] 1 (bNy l h1 h2);FMM.fi 1 gE func166 [hl0.k 6 (gZ [3,3,10,13,27,1,43,1,60,1]),k1.o,Bl.k 1 (gZ [3,3,10,53])] (gc Bl.code (gc k1 (gc hl0.code gn)))
theorem aRn(h0:(l.length:Int)<20):aC Tp 1 (sub (cd Tryz.f166) [1,1,0,0,0]) (zD l) (.exit 0) (zD l):=aC.fi (gZ [3,3,10,13,27,1,43,1,60,1]) [bF] (gc (pZ h0) gn)
theorem aRo(h0:(l.length:Int)≤20):aC Tp 1 (sub (cd Tryz.f166) [1,1,1,1,0,0]) (zE l) (.exit 2) (zE l):=aC.fi (gZ [3,3,10,53]) [bF] (gc (bA h0) gn)
theorem bOa(l:Lqq)(hu:uni 3 l)(hn:l.length<20):FMM Tp 166 [.own 0,.p (aA (l.length:Int)),.fn 97 [] []] [some (.row 63 l.length (l.flatten.map aA))] (.tup []) [some (.row 63 (isort (ltK 2) l).length ((isort (ltK 2) l).flatten.map aA))] := 
 bNz (aF.exit (aRn (by omega)) (by simp)) hu (by omega) (aF.exit (aRo (by omega)) (by simp))
theorem bOb(h0:uni 3 l)(h1:l.length<20):FMM Tp 96 [(.own 0),(.fn 97 [] [])] [some (.row 63 l.length (l.flatten.map aA))] (.tup []) [some (.row 63 ((isort (ltK 2) l).length) ((isort (ltK 2) l).flatten.map aA))]:=have k1:=mq [0] 1 (bOa l h0 h1);FMM.fi 1 gE func96 [k1.o] (gc k1 gn)
theorem bWj(l:Lqq)(hu:uni 3 l)(hn:l.length<20):FMM Tp 96 [.own 0,.fn 97 [] []] [some (.row 63 l.length (l.flatten.map aA))] (.tup []) [some (.row 63 (isort (ltK 2) l).length ((isort (ltK 2) l).flatten.map aA))]:=bOb hu hn
end
section
variable {r0 Ef:Bool}{n102 Ah Cj Aa Ab Df Dh Bm C8 Cl Bi:Int}{t t' Cw T104:Lqb}{L p L' D1 El:Lqq}{l q u:List Int}{i j i' j' Aw base:Nat}{ov:PV}
variable {dl:Int}{sk dc:Lqq}

noncomputable abbrev aBx:Code:=sub (cd Tryz.f53) [1,1,1,1,0,1,0,0]
noncomputable abbrev aHz:Code:=sub (cd Tryz.f53) [1,1,0,1,0,0]
noncomputable abbrev wS:Code:=sub (cd Tryz.f163) [1,0,1,0,0]
noncomputable abbrev aIa:Code:=pS (cd Tryz.f16) 5 [0,1,0,0]
theorem bFz:((0:Int) != 0)=false:=by first | decide | simp
theorem aBy{cs:List PV}{a b:Nat}{v x:PV}(hn:a≠b)(h:cs[b]? = some x):(cs.set a v)[b]? = some x:=by rw [bIz hn];exact h
def ocB(q:List Int)(n:Int):Bool:=q.contains n
abbrev bUd(dl:Int)(sk dc:Lqq)(ov:PV)(R:Lqq)(T T2:Lqb):Prop:=FMM Tp 53 [qY dl sk dc,wV] (cL dl sk dc ov T) (.own 7) (cL dl sk dc ov T2++[some (.row 63 R.length (R.flatten.map aA))])
def mV(dl:Int)(sk dc:Lqq)(ov:PV)(pn:Nat)(pc:List PV)(qn:Nat)(qc:List PV)(i:Nat)(te:List (Value × PV))(tk:Nat):St:=⟨fr 87 [(0,(.rp (aR dl sk dc) 0)),(3,(.ptr 7 0)),(4,(.p dY)),(5,(.own 8)),(6,(.own 9)),(16,(.p (fS sk))),(17,(pI (sk.length:Int))),(18,(pI (i:Int)))],[some (Eg dl sk dc),some (.box 31 [(.p ov)]),some E4,some (.mp te tk),some (.box 183 [(.mp 3)]),some (Eh dl sk dc),some Fy,some E4,some (.row 63 pn pc),some (.row 63 qn qc)]⟩
def iV(dl:Int)(sk dc:Lqq)(ov:PV)(D1 El:Lqq)(Cw:Lqb)(Ln:Nat)(Lc:List PV)(j:Nat):St:=⟨fr 87 [(4,(.p dY)),(5,(.own 7)),(6,(.own 8)),(47,(pI ((isort (ltK 2) D1).length:Int))),(48,(pI (j:Int)))],[some (Eg dl sk dc),some (.box 31 [(.p ov)]),some E4,some (.mp (aK Cw) Cw.length),some (.box 183 [(.mp 3)]),some (Eh dl sk dc),some Fy,some (.row 63 Ln Lc),some (.row 63 El.length (El.flatten.map aA))]⟩
theorem bUe{T:Lqb}{Bn:Nat}{L'4:Lqq}{Uj Kx:Nat}{Dk:List PV}(hl0:aF Tp 7 aHz (mV dl sk dc ov 0 [] 0 [] 0 (aK T) T.length) (.exit 0) (mV dl sk dc ov D1.length (D1.flatten.map aA) El.length (El.flatten.map aA) Bn (aK Cw) Cw.length))(h1:uni 3 D1)(h2:D1.length<20)(Bl:aF Tp 7 aBx (iV dl sk dc ov D1 El Cw ((isort (ltK 2) D1).length) ((isort (ltK 2) D1).flatten.map aA) 0) (.exit 2) (iV dl sk dc ov D1 El Cw L'4.length (L'4.flatten.map aA) Uj))(h4:(El.flatten.map aA).length=El.length*3∧L'4.length+El.length≤1000000)(Kc:Kx=(L'4.length+El.length))(Cu:Dk=((L'4.flatten.map aA)++(El.flatten.map aA))):FMM Tp 53 [(.rp (aR dl sk dc) 0),wV] (cL dl sk dc ov T) (.own 7) [some (Eg dl sk dc),some (.box 31 [(.p ov)]),some E4,some (.mp (aK Cw) Cw.length),some (.box 183 [(.mp 3)]),some (Eh dl sk dc),some Fy,some (.row 63 Kx Dk)]:=by
 subst Kc Cu;have k1:=mq [8] 10 (bWj D1 h1 h2);exact FMM.fi 7 ⟨[],[9],[],[]⟩ func53 [.x (fS sk),hl0.k 1 (gN az [7,8,9] [(5,63),(6,63)]),k1.o,Bl.k 4 (gI ce [8,9])] (gc h4 (gc Bl.code (gc k1 (gc hl0.code (gr (fS sk) gn)))))
section
variable(h0:(i:Int)<(sk.length:Int))(h1:sk[i]? = some [Aa,Ab])(h2:uni 2 sk)(h3:aDo dl sk dc ov [Aa,Ab] n102 Ef t T104)
include h0 h1 h2 h3
theorem bAa{q q':Lqq}(h4:Ef=true)(h5:[(aA Aa),(aA (-1)),(aA 0)].length=1*3∧q.length+1≤1000000)(h6:da i)(J3:q'.length=(q.length+1))(J4:q'.flatten.map aA=((q.flatten.map aA)++[(aA Aa),(aA (-1)),(aA 0)]))(Ai:i'=(i+1))(An:aK t'=(aK T104))(Ao:t'.length=T104.length):aC Tp 7 aHz (mV dl sk dc ov p.length (p.flatten.map aA) q.length (q.flatten.map aA) i (aK t) t.length) .normal (mV dl sk dc ov p.length (p.flatten.map aA) q'.length (q'.flatten.map aA) i' (aK t') t'.length):=by
 subst Ai;have k1:=mq ck 11 h3;rw [J3,J4,An,Ao];exact aC.fi (gI az [7,8,12]) [bT,.x (.agg [(aA Aa),(aA Ab)]),k1.o,bT] (gc h6 (gc h5 (gt ([(aA Aa),(aA (-1)),(aA 0)].length=3) (by first | decide | simp) (gc h4 (gc k1 (gfl h2 h1 (g0 h0)))))))
theorem bAb{q p':Lqq}(h4:Ef=false)(h5:[(aA Aa),(aA 0),(aA n102)].length=1*3∧p.length+1≤1000000)(h6:da i)(J1:p'.length=(p.length+1))(J2:p'.flatten.map aA=((p.flatten.map aA)++[(aA Aa),(aA 0),(aA n102)]))(Ai:i'=(i+1))(An:aK t'=(aK T104))(Ao:t'.length=T104.length):aC Tp 7 aHz (mV dl sk dc ov p.length (p.flatten.map aA) q.length (q.flatten.map aA) i (aK t) t.length) .normal (mV dl sk dc ov p'.length (p'.flatten.map aA) q.length (q.flatten.map aA) i' (aK t') t'.length):=by
 subst Ai;have k1:=mq ck 11 h3;rw [J1,J2,An,Ao];exact aC.fi (gI az [7,12,9]) [bT,.x (.agg [(aA Aa),(aA Ab)]),k1.o,bF] (gc h6 (gc h5 (gt ([(aA Aa),(aA 0),(aA n102)].length=3) (by first | decide | simp) (gc h4 (gc k1 (gfl h2 h1 (g0 h0)))))))
end
theorem bAc{q:Lqq}(h0:(sk.length:Int)≤(i:Int)):aC Tp 7 aHz (mV dl sk dc ov p.length (p.flatten.map aA) q.length (q.flatten.map aA) i (aK t) t.length) (.exit 0) (mV dl sk dc ov p.length (p.flatten.map aA) q.length (q.flatten.map aA) i (aK t) t.length):=aC.fi (gI az [7,8,9]) [bF] (gc (bA h0) gn)
section
variable(h0:(j:Int)<((isort (ltK 2) D1).length:Int))(h1:inR (((j+1):Nat):Int))(h2:L[j]? = some [Df,Dh,Bm])(h3:((j*3)+1)<(L.flatten.map aA).length)
include h0 h1 h2 h3
theorem bAd(h4:(0:Int)<(j:Int))(h5:uni 3 L)(h6:inR ((j:Int)-1))(h7:L[((j:Int)-1).toNat]? = some [C8,Cl,Bi])(h8:0≤((j:Int)-1))(h9:Bm=Bi)(B0:((j*3)+1)<((L.flatten.map aA).set ((j*3)+1) (aA (((j+1):Nat):Int))).length)(Fz:L'.length=L.length)(F3:L'.flatten.map aA=(((L.flatten.map aA).set ((j*3)+1) (aA (((j+1):Nat):Int))).set ((j*3)+1) (aA Cl)))(Dx:j'=(j+1)):aC Tp 7 aBx (iV dl sk dc ov D1 El Cw L.length (L.flatten.map aA) j) .normal (iV dl sk dc ov D1 El Cw L'.length (L'.flatten.map aA) j'):=by
 subst Dx;rw [Fz,F3];exact aC.fi (gI ce [7,8]) (rT 6++[.x (aA Bm)]++rT 6++[.x (aA Bi),bT,bT,bT,.x (aA Cl)]) (gc h1 (gc B0 (gc (cW (i:=(j:Int)) (hZ _) h2) (gt (((L.flatten.map aA).set ((j*3)+1) (aA (((j+1):Nat):Int)))[((((j:Int)-1).toNat*3)+1)]? = some (aA Cl)) (aBy (by omega) (nL (i:=((j:Int)-1).toNat) (f:=1) h5 h7 rfl)) (gc (cW (i:=((j:Int)-1)) h8 h7) (gc h6 (gc (eP h9) (Bc (eV h4) (gt (((L.flatten.map aA).set ((j*3)+1) (aA (((j+1):Nat):Int)))[((((j:Int)-1).toNat*3)+2)]? = some (aA Bi)) (aBy (by omega) (nL (i:=((j:Int)-1).toNat) (f:=2) h5 h7 rfl)) (Bc (eV h4) (gc (cW (i:=((j:Int)-1)) h8 h7) (gc (eV h4) (gc h6 (Ar (eV h4) (gt (((L.flatten.map aA).set ((j*3)+1) (aA (((j+1):Nat):Int)))[((j*3)+2)]? = some (aA Bm)) (aBy (by omega) (nL (i:=j) (f:=2) h5 h2 rfl)) (Bc (eV h4) (gc (cW (i:=(j:Int)) (hZ _) h2) (Ar (eV h4) (gc h3 (gc (cW (i:=(j:Int)) (hZ _) h2) (gc h1 (g0 h0))))))))))))))))))))))
theorem bAe(h4:(0:Int)<(j:Int))(h5:uni 3 L)(h6:inR ((j:Int)-1))(h7:L[((j:Int)-1).toNat]? = some [C8,Cl,Bi])(h8:0≤((j:Int)-1))(h9:Bm≠Bi)(Fz:L'.length=L.length)(F3:L'.flatten.map aA=((L.flatten.map aA).set ((j*3)+1) (aA (((j+1):Nat):Int))))(Dx:j'=(j+1)):aC Tp 7 aBx (iV dl sk dc ov D1 El Cw L.length (L.flatten.map aA) j) .normal (iV dl sk dc ov D1 El Cw L'.length (L'.flatten.map aA) j'):=by
 subst Dx;rw [Fz,F3];exact aC.fi (gI ce [7,8]) (rT 6++[.x (aA Bm)]++rT 6++[.x (aA Bi),bT,bT,bF]) (gc h1 (gc (bL h9) (Bc (eV h4) (gt (((L.flatten.map aA).set ((j*3)+1) (aA (((j+1):Nat):Int)))[((((j:Int)-1).toNat*3)+2)]? = some (aA Bi)) (aBy (by omega) (nL (i:=((j:Int)-1).toNat) (f:=2) h5 h7 rfl)) (Bc (eV h4) (gc (cW (i:=((j:Int)-1)) h8 h7) (gc (eV h4) (gc h6 (Ar (eV h4) (gt (((L.flatten.map aA).set ((j*3)+1) (aA (((j+1):Nat):Int)))[((j*3)+2)]? = some (aA Bm)) (aBy (by omega) (nL (i:=j) (f:=2) h5 h2 rfl)) (Bc (eV h4) (gc (cW (i:=(j:Int)) (hZ _) h2) (Ar (eV h4) (gc h3 (gc (cW (i:=(j:Int)) (hZ _) h2) (gc h1 (g0 h0)))))))))))))))))
theorem bAf(h4:(j:Int)≤0)(Fz:L'.length=L.length)(F3:L'.flatten.map aA=((L.flatten.map aA).set ((j*3)+1) (aA (((j+1):Nat):Int))))(Dx:j'=(j+1)):aC Tp 7 aBx (iV dl sk dc ov D1 El Cw L.length (L.flatten.map aA) j) .normal (iV dl sk dc ov D1 El Cw L'.length (L'.flatten.map aA) j'):=by
 subst Dx;rw [Fz,F3];exact aC.fi (gI ce [7,8]) ([bT]++rF 13) (gc h1 (Jn (bA h4) (Cn (bA h4) (gc h3 (gc (cW (i:=(j:Int)) (hZ _) h2) (gc h1 (g0 h0)))))))
end
theorem bAg(h0:((isort (ltK 2) D1).length:Int)≤(j:Int)):aC Tp 7 aBx (iV dl sk dc ov D1 El Cw L.length (L.flatten.map aA) j) (.exit 2) (iV dl sk dc ov D1 El Cw L.length (L.flatten.map aA) j):=aC.fi (gI ce [7,8]) [bF] (gc (bA h0) gn)
theorem bUf{dl:Int}{sk dc R0:Lqq}{T1:Lqb}(h0:cF dl sk dc)(h1:bUd dl (aB sk) (aB dc) dY R0 ([]:Lqb) T1):FV Tp 25 [(.p (.agg (dX dl sk dc)))] base (.tup [(.own base),(pI 0)]) [(base,(.row 63 R0.length (R0.flatten.map aA)))]:=have k1:=fk 1 (jR dl sk dc h0) rfl;have k2:=mN [] 1 (aIi (dl:=dl) (sk:=(aB sk)) (dc:=(aB dc)));have k3:=mq [1,2,3,4,5,6,7] 8 h1;FV.fi func25 [k1.o,bF,k2.o,k3.o] (gc k3 (gc k2 (gc bFz (gc k1 gn))))
theorem bUg{n:Int}(h0:q.length≤1000)(Ak:r0=(q.contains n)):FV Tp 52 [(pI n),(.rp [(aG q)] 0)] base (pB r0) []:=by
 subst Ak;have k1:=fk 0 (lE q n h0) rfl;exact FV.fi func52 [.x (aG q),k1.o] (gc k1 (gr (aG q) gn))
theorem bUh(n:Int)(q:List Int)(hq:q.length≤1000){base:Nat}:FV Tp 52 [.p (aA n),.rp [aG q] 0] base (pB (ocB q n)) []:=bUg hq rfl
theorem bMn{x:Int}(h0:q.length≤1000)(Ak:r0=(!(ocB q x))):FMM Tp 94 [(pI x),(.ptr 0 0)] [some (.box 44 [(.fn 52 [] [(.rp [(aG q)] 0)])])] (pB r0) [some (.box 44 [(.fn 52 [] [(.rp [(aG q)] 0)])])]:=by
 subst Ak;exact FMM.fi 1 gE func94 [.c (pB (ocB q x)) []] (gc (fk 1 (bUh x q h0) rfl) gn)
theorem aTx(x:Int)(q:List Int)(he:q.length≤1000):FMM Tp 94 [(pI x),.ptr 0 0] [some (.box 44 [(.fn 52 [] [(.rp [(aG q)] 0)])])] (pB (!(ocB q x))) [some (.box 44 [(.fn 52 [] [(.rp [(aG q)] 0)])])]:=bMn he rfl
def fZ(l q:List Int)(i:Nat):St:=⟨fr 19 [(0,(.p (aG l))),(1,(.fn 94 [] [(.ptr 0 0)])),(7,(pI (l.length:Int))),(8,(pI (i:Int)))],[some (.box 44 [(.fn 52 [] [(.rp [(aG q)] 0)])])]⟩
theorem bMo(hl0:aF Tp 1 wS (fZ l q 0) (.exit 0) (fZ l q Aw)):FMM Tp 163 [(.p (aG l)),(.fn 94 [] [(.ptr 0 0)])] [some (.box 44 [(.fn 52 [] [(.rp [(aG q)] 0)])])] (pI (-1)) [some (.box 44 [(.fn 52 [] [(.rp [(aG q)] 0)])])]:=FMM.fi 1 gE func163 [hl0.k 6 (gZ cx)] (gc hl0.code gn)
theorem bMp(hl0:aF Tp 1 wS (fZ l q 0) .ret (cC (fZ l q Aw) [(4,(pI (Aw:Int)))])):FMM Tp 163 [(.p (aG l)),(.fn 94 [] [(.ptr 0 0)])] [some (.box 44 [(.fn 52 [] [(.rp [(aG q)] 0)])])] (pI (Aw:Int)) [some (.box 44 [(.fn 52 [] [(.rp [(aG q)] 0)])])]:=FMM.fi 1 gE func163 [hl0.k 6 (gZ cx)] (gc hl0.code gn)
section
variable(h0:(i:Int)<(l.length:Int))(h1:l[i]? = some Ah)(h2:q.length≤1000)
include h0 h1 h2
theorem aQg(h3:(ocB q Ah)=false):aC Tp 1 wS (fZ l q i) .ret (cC (fZ l q i) [(4,(pI (i:Int)))]):=have k1:=mq [0] 1 (aTx Ah q h2);aC.fi (gZ cr) [bT,.x (aA Ah),k1.o,bT] (gc (bZ h3) (gc k1 (gc (atm aA h1) (gc (ixn aA h1) (g0 h0)))))
theorem aQh(h3:(ocB q Ah)=true)(h4:da i)(Ai:i'=(i+1)):aC Tp 1 wS (fZ l q i) .normal (fZ l q i'):=by
 subst Ai;have k1:=mq [0] 1 (aTx Ah q h2);exact aC.fi (gZ cx) [bT,.x (aA Ah),k1.o,bF] (gc h4 (gc (aV h3) (gc k1 (gc (atm aA h1) (gc (ixn aA h1) (g0 h0))))))
end
theorem aQi(h0:(l.length:Int)≤(i:Int)):aC Tp 1 wS (fZ l q i) (.exit 0) (fZ l q i):=aC.fi (gZ cx) [bF] (gc (bA h0) gn)
theorem bMq(l q:List Int)(hl:l.length≤1000)(he:∀ x∈l,q.length≤1000):FMM Tp 163 [.p (aG l),(.fn 94 [] [(.ptr 0 0)])] [some (.box 44 [(.fn 52 [] [(.rp [(aG q)] 0)])])] (pI (bI (fun x => !(ocB q x)) l)) [some (.box 44 [(.fn 52 [] [(.rp [(aG q)] 0)])])]:=by
 rcases aF.find (P:=Tp) (k:=1) (b:=wS) (fun i=>fZ l q i) (fun i _=>cC (fZ l q i) [(4,.p (aA (i:Int)))]) (fZ l q l.length) .ret (.exit 0) (by simp) (by simp) (fun x => !(ocB q x)) l
  (fun i x hx hp=>by exact aQh (by have:=aX hx;omega) hx (he _ (Bf hx)) (by simpa using hp) (aM (by have:=aX hx;omega)) rfl)
  (fun i x hx hp=>by exact aQg (by have:=aX hx;omega) hx (he _ (Bf hx)) (by simpa using hp))
  (aQi (l:=l) (i:=l.length) (by omega)) with ⟨i,x,h1,h2,h3,h4⟩ | ⟨h1,h2,h3⟩
 ·rw [eZ h2];exact bMp h4
 ·rw [fA h1];exact bMo h3
theorem bMr(h0:l.length≤1000)(h1:∀ x∈l,q.length≤1000)(Ak:r0=(decide ((bI (fun x => !(ocB q x)) l) ≥ 0))):FMM Tp 93 [(.p (aG l)),(.fn 94 [] [(.ptr 0 0)])] [some (.box 44 [(.fn 52 [] [(.rp [(aG q)] 0)])])] (pB r0) [some (.box 44 [(.fn 52 [] [(.rp [(aG q)] 0)])])]:=by
 subst Ak;have k1:=mq [0] 1 (bMq l q h0 h1);exact FMM.fi 1 gE func93 [k1.o] (gc k1 gn)
theorem bMs(l q:List Int)(hl:l.length≤1000)(he:∀ x∈l,q.length≤1000):FMM Tp 93 [.p (aG l),(.fn 94 [] [(.ptr 0 0)])] [some (.box 44 [(.fn 52 [] [(.rp [(aG q)] 0)])])] (pB (l.any (fun x => !(ocB q x)))) [some (.box 44 [(.fn 52 [] [(.rp [(aG q)] 0)])])]:=bMr hl he (iU _ _).symm
theorem bUi(h0:l.length≤1000)(h1:∀ x∈l,q.length≤1000)(Ak:r0=(!(l.any (fun x => !(ocB q x))))):FV Tp 51 [(.p (aG l)),(.fn 52 [] [(.rp [(aG q)] 0)])] base (pB r0) []:=by
 subst Ak;have k1:=mq [0] 1 (bMs l q h0 h1);exact FV.fi func51 [k1.o] (gc k1 gn)
theorem bUj(l q:List Int)(hl:l.length≤1000)(he:∀ x∈l,q.length≤1000){base:Nat}:FV Tp 51 [.p (aG l),(.fn 52 [] [(.rp [(aG q)] 0)])] base (pB (l.all (ocB q))) []:=bUi hl he (by rw [List.all_eq_not_any_not])
def gM(dl:Int)(sk dc:Lqq)(u:List Int)(i:Int):St:=⟨fr 45 [(1,(.p (aG u))),(6,(.rp (aR dl (aB sk) (aB dc)) 0)),(9,(pI i))],[]⟩
theorem bUk{Aw:Int}{R1:Lqq}{T2:Lqb}(h0:cF dl sk dc)(h1:bS (aB dc))(h2:u.length≤1000)(h3:∀ x∈u,(aU dl (aB dc)).length≤1000)(h4:(u.all (ocB (aU dl (aB dc))))=true)(F9:aF Tp 0 aIa (gM dl sk dc u 1) (.exit 0) (gM dl sk dc u Aw))(h6:bUd dl (aB sk) (aB dc) (aG u) R1 ([]:Lqb) T2):FV Tp 16 [(.p (.agg (dX dl sk dc))),(.p (aG u))] base (.tup [(.own base),(pI 0)]) [(base,(.row 63 R1.length (R1.flatten.map aA)))]:=have k1:=fk 1 (jR dl sk dc h0) rfl;have k2:=fk 1 (qV (dl:=dl) (sk:=(aB sk)) (dc:=(aB dc)) h1) rfl;have k3:=fk 1 (bUj u (aU dl (aB dc)) h2 h3) rfl;have k4:=mN [] 0 (oP (dl:=dl) (sk:=(aB sk)) (dc:=(aB dc)) (on:=u.length) (ol:=(u.map aA)));have k5:=mq ck 7 h6;FV.fi func16 [k1.o,bF,k2.o,.g 2 ⟨[],[0],[1,2],[]⟩,k3.o,bF,F9.k 4 (gZ bw),k4.o,k5.o] (gc k5 (gc k4 (gc F9.code (gc (aV h4) (gc k3 (gc k2 (gc bFz (gc k1 gn))))))))
section
variable{i:Int}(h0:i<(u.length:Int))(h1:u[i.toNat]? = some Ah)(h2:0≤i)(h3:inR (i-1))(h4:u[(i-1).toNat]? = some Cj)(h5:0≤(i-1))
include h0 h1 h2 h3 h4 h5
theorem bAh(h6:Ah≤Cj):aC Tp 0 aIa (gM dl sk dc u i) .ret (cC (gM dl sk dc u i) [(4,(.p dY)),(5,(pI 4))]):=aC.fi (gZ [0,1,2,2,7,2,10,30]) [bT,.x (aA Ah),.x (aA Cj),bT] (gc (aWq h6) (gt ((u.map aA)[((i-1).toNat*1)]? = some (aA Cj)) (mE (i:=(i-1).toNat) h4) (gc (oI (g:=aA) h5 h4) (gc h3 (gt ((u.map aA)[(i.toNat*1)]? = some (aA Ah)) (mE (i:=i.toNat) h1) (gc (oI (g:=aA) h2 h1) (g0 h0)))))))
theorem bAi{i':Int}(h6:Cj<Ah)(h7:inR (i+1))(Ai:i'=(i+1)):aC Tp 0 aIa (gM dl sk dc u i) .normal (gM dl sk dc u i'):=by
 subst Ai;exact aC.fi (gZ bw) [bT,.x (aA Ah),.x (aA Cj),bF] (gc h7 (gc (pZ h6) (gt ((u.map aA)[((i-1).toNat*1)]? = some (aA Cj)) (mE (i:=(i-1).toNat) h4) (gc (oI (g:=aA) h5 h4) (gc h3 (gt ((u.map aA)[(i.toNat*1)]? = some (aA Ah)) (mE (i:=i.toNat) h1) (gc (oI (g:=aA) h2 h1) (g0 h0))))))))
end
theorem aFn{i:Int}(h0:(u.length:Int)≤i):aC Tp 0 aIa (gM dl sk dc u i) (.exit 0) (gM dl sk dc u i):=aC.fi (gZ bw) [bF] (gc (bA h0) gn)
end
section
variable {n8:Int}{o q:List Int}{i l s:Nat}

def gC(q:List Int)(s i:Nat):List Int:=((List.range i).filter fun j=>s / 2 ^ j % 2 == 1).map fun j=>q.getD j 0
def iK(q:List Int):Lqq:=(List.range (2 ^ q.length)).map fun s=>gC q s q.length

theorem bMc(h0:0≤(q.length:Int)∧(q.length:Int)≤60∧IntKind.i64 = .i64)(h1:inR ((1:Int)*2 ^ ((q.length:Int).toNat))):cX Tp 0 (sub (cd Tryz.f181) [0]) ⟨fr 35 [(0,(.yld l)),(1,(.rp [(aG q)] 0))],[]⟩ .normal ⟨fr 35 [(0,(.yld l)),(1,(.rp [(aG q)] 0)),(8,(pI ((1:Int)*2 ^ ((q.length:Int).toNat)))),(9,(pI 0))],[]⟩:=cX.fi (gZ [2,6,10,25]) [.x (aG q)] (gc h1 (gc h0 (gr (aG q) gn)))
theorem bMd:cX Tp 0 (sub (cd Tryz.f181) [1,0,0,0]) ⟨fr 35 [(0,(.yld l)),(1,(.rp [(aG q)] 0)),(8,(pI n8)),(9,(pI (s:Int)))],[]⟩ .normal ⟨fr 35 [(0,(.yld l)),(1,(.rp [(aG q)] 0)),(8,(pI n8)),(9,(pI (s:Int))),(10,(pB (decide ((s:Int)<n8))))],[]⟩:=cX.fi (gZ [2,6,11,24]) [] gn
theorem bMe:cX Tp 0 (sub (cd Tryz.f181) [1,0,0,1,1,0,0,0]) ⟨fr 35 [(0,(.yld l)),(1,(.rp [(aG q)] 0)),(8,(pI n8)),(9,(pI (s:Int)))],[]⟩ .normal ⟨fr 35 [(0,(.yld l)),(1,(.rp [(aG q)] 0)),(3,(pI (s:Int))),(8,(pI n8)),(9,(pI (s:Int)))],[]⟩:=cX.fi (gZ [2,1,4,4,10,25]) [] gn
theorem bMf:cX Tp 0 (sub (cd Tryz.f181) [1,0,0,1,1,0,0,1,0]) ⟨fr 35 [(0,(.yld l)),(1,(.rp [(aG q)] 0)),(3,(pI (s:Int))),(8,(pI n8)),(9,(pI (s:Int)))],[]⟩ .normal ⟨fr 35 [(0,(.yld l)),(1,(.rp [(aG q)] 0)),(3,(pI (s:Int))),(4,(.p dY)),(8,(pI n8)),(9,(pI (s:Int)))],[]⟩:=cX.fi (gZ [2,1,5,3,10,25]) [] gn
theorem bMg:cX Tp 0 (sub (cd Tryz.f181) [1,0,0,1,1,0,0,1,1,0,0]) ⟨fr 35 [(0,(.yld l)),(1,(.rp [(aG q)] 0)),(3,(pI (s:Int))),(4,(.p dY)),(8,(pI n8)),(9,(pI (s:Int)))],[]⟩ .normal ⟨fr 35 [(0,(.yld l)),(1,(.rp [(aG q)] 0)),(3,(pI (s:Int))),(4,(.own 0)),(8,(pI n8)),(9,(pI (s:Int))),(13,(pI (q.length:Int))),(14,(pI 0))],[some (.row 3 0 [])]⟩:=cX.fi (gN bp [0] [(4,3)]) [.x (aG q)] (gr (aG q) gn)
theorem bMh:cX Tp 0 (sub (cd Tryz.f181) [1,0,0,1,1,0,0,1,1,0,1,0,0,0]) ⟨fr 35 [(0,(.yld l)),(1,(.rp [(aG q)] 0)),(3,(pI (s:Int))),(4,(.own 0)),(8,(pI n8)),(9,(pI (s:Int))),(13,(pI (q.length:Int))),(14,(pI (i:Int)))],[some (.row 3 o.length (o.map aA))]⟩ .normal ⟨fr 35 [(0,(.yld l)),(1,(.rp [(aG q)] 0)),(3,(pI (s:Int))),(4,(.own 0)),(8,(pI n8)),(9,(pI (s:Int))),(13,(pI (q.length:Int))),(14,(pI (i:Int))),(15,(pB (decide ((i:Int)<(q.length:Int)))))],[some (.row 3 o.length (o.map aA))]⟩:=cX.fi (gI [2,1,5,3,10,3,16,19] [0]) [] gn
theorem bMi:cX Tp 0 (sub (cd Tryz.f181) aj) ⟨fr 35 [(0,(.yld l)),(1,(.rp [(aG q)] 0)),(3,(pI (s:Int))),(4,(.own 0)),(8,(pI n8)),(9,(pI (s:Int))),(13,(pI (q.length:Int))),(14,(pI (i:Int)))],[some (.row 3 o.length (o.map aA))]⟩ .normal ⟨fr 35 [(0,(.yld l)),(1,(.rp [(aG q)] 0)),(3,(pI (s:Int))),(4,(.own 0)),(5,(pI (i:Int))),(8,(pI n8)),(9,(pI (s:Int))),(13,(pI (q.length:Int))),(14,(pI (i:Int)))],[some (.row 3 o.length (o.map aA))]⟩:=cX.fi (gI [2,1,6,2,10,3,15,20] [0]) [] gn
theorem bMj(h0:0≤((s:Int).fdiv (2 ^ min ((i:Int).toNat) (IntKind.bits .i64)))∧((s:Int).fdiv (2 ^ min ((i:Int).toNat) (IntKind.bits .i64)))≤9223372036854775807∧(1:Int)=1∧IntKind.i64 = .i64):cX Tp 0 (sub (cd Tryz.f181) ah) ⟨fr 35 [(0,(.yld l)),(1,(.rp [(aG q)] 0)),(3,(pI (s:Int))),(4,(.own 0)),(5,(pI (i:Int))),(8,(pI n8)),(9,(pI (s:Int))),(13,(pI (q.length:Int))),(14,(pI (i:Int)))],[some (.row 3 o.length (o.map aA))]⟩ .normal ⟨fr 35 [(0,(.yld l)),(1,(.rp [(aG q)] 0)),(3,(pI (s:Int))),(4,(.own 0)),(5,(pI (i:Int))),(8,(pI n8)),(9,(pI (s:Int))),(13,(pI (q.length:Int))),(14,(pI (i:Int))),(21,(pB ((((s:Int).fdiv (2 ^ min ((i:Int).toNat) (IntKind.bits .i64))) % 2) == 1)))],[some (.row 3 o.length (o.map aA))]⟩:=cX.fi (gI [2,1,6,2,10,3,15,6,22,13] [0]) [] (gc h0 (gt (0≤(i:Int)) (hZ _) gn))
theorem bMk{x0:Int}(h0:q[i]? = some x0)(h1:[(aA x0)].length=1*1∧o.length+1≤1000000):cX Tp 0 (sub (cd Tryz.f181) af) ⟨fr 35 [(0,(.yld l)),(1,(.rp [(aG q)] 0)),(3,(pI (s:Int))),(4,(.own 0)),(5,(pI (i:Int))),(8,(pI n8)),(9,(pI (s:Int))),(13,(pI (q.length:Int))),(14,(pI (i:Int)))],[some (.row 3 o.length (o.map aA))]⟩ .normal ⟨fr 35 [(0,(.yld l)),(1,(.rp [(aG q)] 0)),(3,(pI (s:Int))),(4,(.own 0)),(8,(pI n8)),(9,(pI (s:Int))),(13,(pI (q.length:Int))),(14,(pI (i:Int)))],[some (.row 3 (o.length+1) ((o.map aA)++[(aA x0)]))]⟩:=cX.fi (gI bp [2]) [.x (aG q),.x (aA x0)] (gc h1 (gc (atm aA h0) (gc (ixn aA h0) (gr (aG q) gn))))
theorem bMl(h0:da i):cX Tp 0 (sub (cd Tryz.f181) am) ⟨fr 35 [(0,(.yld l)),(1,(.rp [(aG q)] 0)),(3,(pI (s:Int))),(4,(.own 0)),(8,(pI n8)),(9,(pI (s:Int))),(13,(pI (q.length:Int))),(14,(pI (i:Int)))],[some (.row 3 o.length (o.map aA))]⟩ .normal ⟨fr 35 [(0,(.yld l)),(1,(.rp [(aG q)] 0)),(3,(pI (s:Int))),(4,(.own 0)),(8,(pI n8)),(9,(pI (s:Int))),(13,(pI (q.length:Int))),(14,(pI (((i+1):Nat):Int)))],[some (.row 3 o.length (o.map aA))]⟩:=cX.fi (gI bp [0]) [] (gc h0 gn)
theorem bMm(h0:da s):cX Tp 0 (sub (cd Tryz.f181) [1,0,0,1,1,1]) ⟨fr 35 [(0,(.yld l)),(1,(.rp [(aG q)] 0)),(8,(pI n8)),(9,(pI (s:Int)))],[]⟩ .normal ⟨fr 35 [(0,(.yld l)),(1,(.rp [(aG q)] 0)),(8,(pI n8)),(9,(pI (((s+1):Nat):Int)))],[]⟩:=cX.fi (gZ [2,6,10,25]) [] (gc h0 gn)
end
end KV
end Go.Proofs
section
namespace Go.Proofs
open Go.RowKit
namespace KV
open Tryz
attribute [local go_sem] Oper.semAt_some
theorem zA(l:List (Nat × AV)):∀ (n k:Nat),(frm l n k).length=n
 | 0,_=>rfl
 | n+1,k=>by unfold frm;rw [pY,zA]
theorem aQe(l:List (Nat × AV)):∀ (n k j:Nat) (h:j<(frm l n k).length),(frm l n k)[j]=look l (k+j)
 | 0,_,j,h=>by simp [frm] at h
 | n+1,k,0,h=>rfl
 | n+1,k,j+1,h=>by
  have:=aQe l n (k+1) j (by rw [zA] at h ⊢;omega)
  rw [show k+(j+1)=k+1+j by omega]
  exact this
theorem aLh{C:Cx}{M:Mem}{w:World}{us:Array Value}:∀ {l:List (Nat × AV)},(∀ p∈l,Rep C M w p.2 (us.getD p.1 undef))→∀ j,Rep C M w (look l j) (us.getD j undef)
 | [],_,j => .any _
 | (i,x)::r,h,j=>by
  unfold look
  split
  ·rename_i hb
   rw [← Nat.eq_of_beq_eq_true hb];exact h (i,x) (jI ..)
  ·exact aLh (fun p hp=>h p (B7 _ hp)) j
theorem aLi{C:Cx}{M:Mem}{w:World}{us:Array Value}{n:Nat}{l:List (Nat × AV)}(hs:us.size=n)(h:∀ p∈l,Rep C M w p.2 (us.getD p.1 undef)):dO C M w (fr n l) us:=by
 refine ⟨by rw [hs,zA],fun i hi => ?_⟩
 rw [aQe,fE];exact aLh h _
theorem tV{C:Cx}{M:Mem}{w:World}{us:Array Value}{n:Nat}{l:List (Nat × AV)}(h:dO C M w (fr n l) us)(i:Nat)(hi:i<n):Rep C M w (look l i) (us.getD i undef):=by
 have:=h.rep i (by rw [zA];exact hi)
 rwa [aQe,fE] at this

section
variable {P:Program}
def InK(Cv:Cx)(V:World)(v0:Value)(st:St)(a:Act)(w:World):Prop:=Sim Tp Cv [] V st a w∧a.tmps.getD 1 undef=v0∧a.defers=[]
theorem InK.step{Cv:Cx}{V:World}{v0:Value}{c:Code}{st Ag:St}{a:Act}{w:World}{n:Nat}{K:Act→World→Prop}{Q:Exit→Act→World→Prop}(h:cX Tp 0 c st .normal Ag)(hw:wrR c 1=false)(hi:InK Cv V v0 st a w)
  (hK:∀ a' w',InK Cv V v0 Ag a' w'→K a' w'):c.wpIn (Fen none) n Tp (Exit.then K Q) a w :=
 wpIn_mono (h Cv [] V a w (by simp) hi.1 none n) fun e a' w' hq=>by
  obtain ⟨he,hs,hk⟩:=hq;subst he;exact hK a' w' ⟨hs,(hk.1 1 hw).trans hi.2.1,hk.2.trans hi.2.2⟩
end
noncomputable abbrev cO:Code:=cd Tryz.f181
abbrev stA(l:Nat)(q:List Int)(n8:Int)(s:Nat):St:=⟨fr 35 [(0,.yld l),(1,.rp [aG q] 0),(8,.p (aA n8)),(9,.p (aA (s:Int)))],[]⟩
abbrev stB(l:Nat)(q:List Int)(n8:Int)(s:Nat)(o:List Int)(i:Nat):St:=⟨fr 35 [(0,.yld l),(1,.rp [aG q] 0),(3,.p (aA (s:Int))),(4,.own 0),(8,.p (aA n8)),(9,.p (aA (s:Int))),(13,.p (aA (q.length:Int))),(14,.p (aA (i:Int)))],[some (.row 3 o.length (o.map aA))]⟩
theorem aZy(q:List Int)(s i:Nat):gC q s (i+1)=gC q s i++if s / 2 ^ i % 2 == 1 then [q.getD i 0] else []:=by
 unfold gC;rw [List.range_succ,sD,eE]
 congr 1
 cases h:s / 2 ^ i % 2 == 1 <;> simp [h]
theorem aLj(q:List Int)(s i:Nat):(gC q s i).length≤i:=by
 unfold gC;rw [A8];have:=aBa (fun j=>s / 2 ^ j % 2 == 1) (List.range i)
 rwa [aDj] at this
theorem bMb(s i:Nat)(hi:i≤60):(s:Int).fdiv (2 ^ min ((i:Int).toNat) (IntKind.bits .i64))=((s / 2 ^ i:Nat):Int):=by
 have hb:IntKind.bits .i64=64:=rfl;rw [aOh,hb,Nat.min_eq_left (by omega),Int.fdiv_eq_ediv_of_nonneg _ (by exact_mod_cast Nat.zero_le _)]
 push_cast
 rfl
theorem bFr{Cv:Cx}{V:World}{v0:Value}{l:Nat}{q:List Int}{n8:Int}{s:Nat}(hq:q.length≤60)(hs:s≤9223372036854775807){n:Nat}{K:Act→World→Prop}{Q:Exit→Act→World→Prop}{a:Act}{w:World}
  (hi:InK Cv V v0 (stB l q n8 s [] 0) a w) (hK:∀ a' w',InK Cv V v0 (stB l q n8 s (gC q s q.length) q.length) a' w'→K a' w') :
  (Code.block 2 (.loop (sub cO [1,0,0,1,1,0,0,1,1,0,1,0,0]))).wpIn (Fen none) n Tp (Exit.then K Q) a w:=by
 refine wpIn_block ?_;refine wpIn_loop_ghost (fun k a w=>∃ i,i≤q.length∧k=q.length-i∧InK Cv V v0 (stB l q n8 s (gC q s i) i) a w) q.length ⟨0,by omega,by omega,hi⟩ ?_
 rintro k a w ⟨i,hil,rfl,hI⟩;have e1:sub cO [1,0,0,1,1,0,0,1,1,0,1,0,0] = .seq (sub cO [1,0,0,1,1,0,0,1,1,0,1,0,0,0]) (.seq (.cond (.tmp 15) .skip (.exit 2)) (.seq (.block 3 (.seq (sub cO aj) (.seq (sub cO ah) (.cond (.tmp 21) (sub cO af) .skip)))) (sub cO am))):=by kernel_rfl
 rw [e1];refine wpIn_seq ?_;refine InK.step bMh (by kernel_rfl) hI fun a1 w1 h1 => ?_
 refine wpIn_seq ?_;obtain ⟨⟨C1,Hm,_⟩,_⟩:=id h1;have Na:a1.eval (.tmp 15) = .bool (decide ((i:Int)<(q.length:Int))):=by
  have:=tV Hm 15 (by omega)
  show a1.tmps.getD 15 undef=_;generalize a1.tmps.getD 15 undef=u at this
  have h2:Rep C1 _ w1 (.p (.v (.bool (decide ((i:Int)<(q.length:Int)))))) u:=this;cases h2 with
  | p _ _ h=>cases h;rfl
 by_cases hlt:i<q.length
 ·refine wpIn_cond_true (by rw [Na,decide_eq_true (by omega)]) (wpIn_skip ?_)
  show Code.wpIn _ _ _ _ _ _ _;have G4:InK Cv V v0 (stB l q n8 s (gC q s i) i) a1 w1:=⟨(dU (g:=⟨[15],[0],[],[]⟩) (k:=0) (cP _) (by kernel_rfl) h1.1),h1.2⟩
  refine wpIn_seq ?_;have hsd:=bMb s i (by omega)
  have hx:q[i]? = some (q.getD i 0):=by rw [Bj,Ap hlt];rfl
  have hpl:=aLj q s i;have hfin:∀ a2 w2,InK Cv V v0 (stB l q n8 s (gC q s (i+1)) i) a2 w2→(sub cO am).wpIn (Fen none) n Tp (Exit.then (fun a' w'=>∃ n',n'<q.length-i∧∃ i',i'≤q.length∧n'=q.length-i'∧InK Cv V v0 (stB l q n8 s (gC q s i') i') a' w') (Exit.inBlock 2 (Exit.then K Q))) a2 w2:=fun a2 w2 h2 =>
   InK.step (bMl (aM (by omega))) (by kernel_rfl) h2 fun a3 w3 h3=>⟨q.length-(i+1),by omega,i+1,by omega,rfl,h3⟩
  refine wpIn_block ?_;refine wpIn_seq ?_;refine InK.step bMi (by kernel_rfl) G4 fun a2 w2 h2 => ?_
  refine wpIn_seq ?_;have hle:s / 2 ^ i≤s:=Nat.div_le_self _ _;refine InK.step (bMj (s:=s) (i:=i) ⟨by rw [hsd];exact hZ _,by rw [hsd];exact Int.ofNat_le.2 (fL hle hs),rfl,rfl⟩) (by kernel_rfl) h2 fun a3 w3 h3 => ?_
  obtain ⟨⟨C3,H0,_⟩,_⟩:=id h3;have Nb:a3.eval (.tmp 21) = .bool (s / 2 ^ i % 2 == 1):=by
   have:=tV H0 21 (by omega)
   show a3.tmps.getD 21 undef=_;generalize a3.tmps.getD 21 undef=u at this
   have h2:Rep C3 _ w3 (.p (.v (.bool (((s:Int).fdiv (2 ^ min ((i:Int).toNat) (IntKind.bits .i64))) % 2 == 1)))) u:=this;cases h2 with
   | p _ _ h =>
    cases h;rw [hsd]
    congr 1
    generalize s / 2 ^ i=z;rw [Bool.eq_iff_iff,beq_iff_eq,beq_iff_eq];omega
  have H1:InK Cv V v0 ⟨fr 35 [(0,.yld l),(1,.rp [aG q] 0),(3,.p (aA (s:Int))),(4,.own 0),(5,.p (aA (i:Int))),(8,.p (aA n8)),(9,.p (aA (s:Int))),(13,.p (aA (q.length:Int))),(14,.p (aA (i:Int)))],[some (.row 3 (gC q s i).length ((gC q s i).map aA))]⟩ a3 w3:=⟨(dU (g:=⟨[21],[0],[],[]⟩) (k:=0) (cP _) (by kernel_rfl) h3.1),h3.2⟩
  have hp:=aZy q s i;cases hb:s / 2 ^ i % 2 == 1 with
  | true =>
   refine wpIn_cond_true (by rw [Nb,hb]) ?_
   rw [hb,if_pos rfl] at hp
   refine wpIn_mono (bMk (o:=gC q s i) hx ⟨rfl,by omega⟩ Cv [] V a3 w3 (by simp) H1.1 none n) ?_
   rintro e a4 w4 ⟨rfl,h4,R5⟩;refine hfin a4 w4 ⟨?_,(R5.1 1 (by kernel_rfl)).trans H1.2.1,R5.2.trans H1.2.2⟩
   have e8:(stB l q n8 s (gC q s (i+1)) i)=⟨fr 35 [(0,.yld l),(1,.rp [aG q] 0),(3,.p (aA (s:Int))),(4,.own 0),(8,.p (aA n8)),(9,.p (aA (s:Int))),(13,.p (aA (q.length:Int))),(14,.p (aA (i:Int)))],[some (.row 3 ((gC q s i).length+1) ((gC q s i).map aA++[aA (q.getD i 0)]))]⟩:=by
    rw [hp];unfold stB;rw [fK,eE];rfl
   rw [e8];exact h4
  | false =>
   refine wpIn_cond_false (by rw [Nb,hb]) (wpIn_skip ?_)
   rw [hb,if_neg (by simp),List.append_nil] at hp
   refine hfin a3 w3 ?_;rw [hp];exact ⟨(dU (g:=⟨[5],[0],[],[]⟩) (k:=0) (cP _) (by kernel_rfl) H1.1),H1.2⟩
 ·obtain rfl:i=q.length:=by omega
  refine wpIn_cond_false (by rw [Na,decide_eq_false (by omega)]) (wpIn_exit ?_)
  show Exit.inBlock 2 (Exit.then K Q) (.exit 2) a1 w1
  unfold Exit.inBlock;dsimp only;rw [if_pos rfl];exact hK a1 w1 ⟨(dU (g:=⟨[15],[0],[],[]⟩) (k:=0) (cP _) (by kernel_rfl) h1.1),h1.2⟩
theorem aHy{a:Act}{W:World}{l id t0 t1 t2 t3:Nat}{ts:Array TypeId}{p0 p1 p2 p3:String}{f0 f1 f2 f3:Array Edge}{u:Value}{A B:World→Prop}{K:Act→World→Prop}{Q:Exit→Act→World→Prop}
  (hs:a.tmps.size=35) (h0:a.tmps.getD 0 undef = .func (.yield l) #[] #[]) (h4:a.tmps.getD 4 undef=u)
  (hy:YieldAt (Fen none) 1 Tp l #[u] W (fun e W'=>(e = .returned (.bool true)∧A W')∨(e = .returned (.bool false)∧B W')))
  (hA:∀ a' W',A W'→a'.defers=a.defers→a'.tmps.size=35→(∀ i,i<30→a'.tmps.getD i undef=a.tmps.getD i undef)→a'.tmps.getD 33 undef = .bool false→K a' W')
  (hB:∀ a' W',B W'→a'.defers=a.defers→a'.tmps.getD 33 undef = .bool true→K a' W') :
  (Code.region id #[{ dst:=some 30,op := .move (.tmp 0),type:=t0,pos:=p0,after:=f0,guard:=none },{ dst:=some 31,op := .move (.tmp 4),type:=t1,pos:=p1,after:=f1,guard:=none },
   {dst:=some 32,op := .call { callee := .value (.tmp 30),args := #[.tmp 31],argTypes:=ts },type:=t2,pos:=p2,after:=f2,guard:=none },{ dst:=some 33,op := .unOp .not 4 (.tmp 32),type:=t3,pos:=p3,after:=f3,guard:=none }] false).wpIn (Fen none) 2 Tp (Exit.then K Q) a W:=by
 refine wpIn_region_lit (wpListIn_plain rfl fun K1 P5 => ?_)
 unfold Oper.wpIn;refine ⟨fun f _=>trivial,?_⟩
 rw [Oper.semAt_plain _ _ _ (by intro c Fh;cases Fh)]
 simp only [execOp,Sem.run_pure];refine P5 _ _ (wpListIn_plain rfl fun K2 Nc => ?_)
 unfold Oper.wpIn;refine ⟨fun f _=>trivial,?_⟩
 rw [Oper.semAt_plain _ _ _ (by intro c Fh;cases Fh)]
 simp only [execOp,Sem.run_pure];refine Nc _ _ (wpListIn_plain rfl fun K3 Nf => ?_)
 unfold Oper.wpIn;refine ⟨fun f _=>trivial,?_⟩
 rw [Oper.semAt_plain _ _ _ (by intro c Fh;cases Fh)]
 obtain ⟨fn,tmps,assign,body,hrun,hR⟩:=hy;have P6:(((a.put (some 30) (a.eval (.tmp 0))).put (some 31) ((a.put (some 30) (a.eval (.tmp 0))).eval (.tmp 4)))).eval (.tmp 30) = .func (.yield l) #[] #[]:=by
  show ((a.tmps.setIfInBounds 30 (a.tmps.getD 0 undef)).setIfInBounds 31 _).getD 30 undef=_;rw [h0];simp [A4,Array.getElem?_setIfInBounds,hs]
 have P7:(((a.put (some 30) (a.eval (.tmp 0))).put (some 31) ((a.put (some 30) (a.eval (.tmp 0))).eval (.tmp 4)))).eval (.tmp 31)=u:=by
  show ((a.tmps.setIfInBounds 30 (a.tmps.getD 0 undef)).setIfInBounds 31 ((a.tmps.setIfInBounds 30 (a.tmps.getD 0 undef)).getD 4 undef)).getD 31 undef=_;rw [← h4];simp [A4,Array.getElem?_setIfInBounds,hs]
 have Ng:∀ i,i<30→(((a.put (some 30) (a.eval (.tmp 0))).put (some 31) ((a.put (some 30) (a.eval (.tmp 0))).eval (.tmp 4)))).tmps.getD i undef=a.tmps.getD i undef:=fun i hi=>by
  rw [nP (fun e=>by cases e;omega),nP (fun e=>by cases e;omega)]
 have eD:(((a.put (some 30) (a.eval (.tmp 0))).put (some 31) ((a.put (some 30) (a.eval (.tmp 0))).eval (.tmp 4)))).defers=a.defers:=rfl;have eS:(((a.put (some 30) (a.eval (.tmp 0))).put (some 31) ((a.put (some 30) (a.eval (.tmp 0))).eval (.tmp 4)))).tmps.size=35:=by
  show ((a.tmps.setIfInBounds _ _).setIfInBounds _ _).size=35;simp [hs]
 revert P6 P7 Ng eD eS;dsimp only;generalize (((a.put (some 30) (a.eval (.tmp 0))).put (some 31) ((a.put (some 30) (a.eval (.tmp 0))).eval (.tmp 4))))=a2;intro P6 P7 Ng eD eS;have er:Sem.run Tp (execOp a2.eval { dst:=some 32,op := .call { callee := .value (.tmp 30),args := #[.tmp 31],argTypes:=ts },type:=t2,pos:=p2,after:=f2,guard:=none }) W = .ok (.round l fn tmps assign body) W:=by
  rw [← hrun];simp only [execOp,resolve,Deferred.ofValue,P6,P7,List.map_toArray,gT,List.map_nil,Sem.run_bind,Sem.run_pure,invoke];simp
 rw [er,Oper.uponIn_round];refine ⟨fun h=>by simp [Fen,Fence.wide] at h,hR.mono ?_⟩
 have last:∀ (b:Bool) (w3:World),(∀ a',a'.defers=a.defers→a'.tmps.size=35→(∀ i,i<30→a'.tmps.getD i undef=a.tmps.getD i undef)→a'.tmps.getD 33 undef = .bool (!b)→K a' w3)→K3 (a2.put (some 32) (.bool b)) w3:=fun b w3 hfin=>by
  refine Nf _ _ (wpListIn_plain rfl fun K4 Nh => ?_)
  unfold Oper.wpIn;refine ⟨fun f _=>trivial,?_⟩
  rw [Oper.semAt_plain _ _ _ (by intro c Fh;cases Fh)]
  have Ua:(a2.put (some 32) (.bool b)).eval (.tmp 32) = .bool b:=by
   show (a2.tmps.setIfInBounds 32 _).getD 32 undef=_;simp [A4,eS]
  have eu:Sem.run Tp (execOp (a2.put (some 32) (.bool b)).eval { dst:=some 33,op := .unOp .not 4 (.tmp 32),type:=t3,pos:=p3,after:=f3,guard:=none }) w3 = .ok (.value (.bool !b)) w3:=by
   simp only [execOp,Ua];rfl
  rw [eu];refine Nh _ _ (wpListIn_nil (hfin _ eD ?_ (fun i hi => ?_) ?_))
  ·show ((a2.tmps.setIfInBounds _ _).setIfInBounds _ _).size=35
   simp [eS]
  ·rw [nP (fun e=>by cases e;omega),nP (fun e=>by cases e;omega)]
   exact Ng i hi
  ·show ((a2.tmps.setIfInBounds 32 _).setIfInBounds 33 _).getD 33 undef=_
   simp [A4,eS]
 rintro e w3 (⟨rfl,h⟩ | ⟨rfl,h⟩)
 ·exact last true w3 fun a' h1 h2 h3 h4=>hA a' w3 h h1 h2 h3 h4
 ·exact last false w3 fun a' h1 h2 h3 h4=>hB a' w3 h h1 h4
end KV
end Go.Proofs
end
section
namespace Go.Proofs
open Go.RowKit
namespace KV
open Tryz
structure Lp (l:Nat) (v0:Value) (n8:Int) (s:Nat) (a:Act):Prop where
 size:a.tmps.size=35
 s0:a.tmps.getD 0 undef = .func (.yield l) #[] #[]
 s1:a.tmps.getD 1 undef=v0
 s8:a.tmps.getD 8 undef = .int .i64 n8
 s9:a.tmps.getD 9 undef = .int .i64 (s:Int)
 df:a.defers=[]
abbrev cxF(F:Nat→Prop):Cx:={ ι:=fun _=>none,κ:=fun _=>0,F:=F,R:=[] }
theorem aTv{P:Program}{F:Nat→Prop}{W:World}(hF:∀ b,F b→b<W.heap.size):aO P (cxF F) [] W :=
 ⟨fun _ _ _ _ h=>by simp at h,fun _ _ _ h=>by simp at h,fun _ _ _ h=>by simp at h,fun _ _ _ _ _ h=>by simp at h,fun _ _ _ h=>by simp at h,hF,fun _ _ _ h=>by simp at h⟩
theorem aLf{C:Cx}{M:Mem}{w:World}{n:Int}{u:Value}(h:Rep C M w (.p (aA n)) u):u = .int .i64 n:=by
 cases h with
 | p _ _ h=>cases h;rfl
theorem Lp.ink{F:Nat→Prop}{l:Nat}{v0:Value}{q:List Int}{n8:Int}{s:Nat}{a:Act}{W:World}(h:Lp l v0 n8 s a)(hF:∀ b,F b→b<W.heap.size)(hr:Rep (cxF F) [] W (.rp [aG q] 0) v0):InK (cxF F) W v0 (stA l q n8 s) a W:=by
 refine ⟨⟨cxF F,aLi h.size ?_,aTv hF,Fr.refl _ _ _,?_⟩,h.s1,h.df⟩
 ·intro p hp
  simp only [gG,List.not_mem_nil,or_false] at hp
  rcases hp with rfl | rfl | rfl | rfl
  ·rw [h.s0];exact .yld l
  ·rw [h.s1];exact hr
  ·rw [h.s8];exact .p _ _ (.v _)
  ·rw [h.s9];exact .p _ _ (.v _)
 ·rw [h.df];exact .nil rfl (mZ rfl)
theorem InK.lp{Cv:Cx}{V W:World}{l:Nat}{v0:Value}{n8:Int}{s:Nat}{a:Act}{st:St}(h:InK Cv V v0 st a W)(Tz:st.t.length=35)(e0:st.t[0]? = some (.yld l))(e8:st.t[8]? = some (.p (aA n8)))(e9:st.t[9]? = some (.p (aA (s:Int)))):Lp l v0 n8 s a:=by
 obtain ⟨⟨C,hS,_⟩,h1,hd⟩:=h;refine ⟨hS.size.trans Tz,?_,h1,aLf (hS.at e8),aLf (hS.at e9),hd⟩
 have:=hS.at e0
 revert this;generalize a.tmps.getD 0 undef=u;intro this;cases this;rfl
theorem aLg{C0 C:Cx}{V W:World}{M:Mem}(h:Fr C0 [] V C M W):V.grownBy W none :=
 ⟨h.os,h.tape,h.out,h.size,fun k hk _=>h.keep k hk (fun _ _ h=>by simp at h)⟩
theorem InK.grown{Cv:Cx}{V W:World}{v0:Value}{st:St}{a:Act}(h:InK Cv V v0 st a W):V.grownBy W none:=by
 obtain ⟨⟨C,_,_,hF,_⟩,_⟩:=h;exact aLg hF
theorem InK.kp{Cv:Cx}{V W:World}{v0:Value}{st:St}{a:Act}(h:InK Cv V v0 st a W){F:Nat→Prop}(hF:∀ b,F b→b<V.heap.size):KpG F V W :=
 ⟨h.grown.size,fun b hb=>nQ h.grown b (hF b hb)⟩
theorem InK.rowH{F:Nat→Prop}{V W:World}{v0:Value}{st:St}{a:Act}{o:List Int}(h:InK (cxF F) V v0 st a W)(e4:st.t[4]? = some (.own 0))(em:st.m=[some (kS o)])(hl:o.length≤1000):bFv Tp (o,a.tmps.getD 4 undef) V W:=by
 obtain ⟨⟨C,hS,hM,hF,_⟩,_⟩:=h;refine ⟨hl,C,em ▸ hM,em ▸ hS.at e4,fun b hb => ?_⟩
 rcases hF.new 0 (kS o) b (by rw [em];rfl) rfl hb with h | ⟨i,o',h,_⟩
 ·exact h
 ·simp at h
theorem aTw{n:Nat}(h:n≤1152921504606846977):inR (n:Int):=by unfold inR;omega
theorem bFq{n:Nat}(h:n≤60):(2:Nat) ^ n≤1152921504606846976:=fL (Nat.pow_le_pow_right (by omega) h) (by decide)
theorem aZv(q:List Int)(s:Nat)(h:s<2 ^ q.length):(iK q).take (s+1)=(iK q).take s++[gC q s q.length]:=by
 rw [List.take_add_one]
 congr 1
 unfold iK;rw [B6,aOg h];rfl
theorem vG(q:List Int):(iK q).length=2 ^ q.length:=by unfold iK;simp
set_option maxHeartbeats 2000000 in
theorem aZw{F:Nat→Prop}{q:List Int}(hq:q.length≤60){l:Nat}{v0:Value}{w:World}(hF:∀ b,F b→b<w.heap.size)(hr:Rep (cxF F) [] w (.rp [aG q] 0) v0){a:Act}(ha:a.tmps.size=35)(T0:a.tmps.getD 0 undef = .func (.yield l) #[] #[])(Kw:a.tmps.getD 1 undef=v0)(had:a.defers=[])
  {J Jx:List (List Int × Value)→World→Prop} (hJ:AbidesFrom w.heap.size J) (hJx:AbidesFrom w.heap.size Jx)
  (hY:∀ pre x W0 W1,J pre W0→W0.grownBy W1 none→bFv Tp x W0 W1→pre.length<2 ^ q.length→YieldAt (Fen none) 1 Tp l #[x.2] W1 fun e W' =>
   (e = .returned (.bool true)∧J (pre++[x]) W'∧KpG F W0 W')∨(e = .returned (.bool false)∧Jx (pre++[x]) W'))
  (h0:J [] w) {R:Ending→World→Prop} (hR:∀ W',((∃ xs:List (List Int × Value),xs.map (·.1)=iK q∧J xs W')∨(∃ pre:List (List Int × Value),pre.map (·.1) <+: iK q∧Jx pre W'))→R (.returned (.tuple #[])) W') :
  cO.wpIn (Fen none) 2 Tp (bodyPost Tp Tryz.f181 R) a w:=by
 have hpow:=bFq hq;obtain ⟨N,hN⟩:∃ N,2 ^ q.length=N:=⟨_,rfl⟩;rw [hN] at hpow
 have c0 : cO = .seq (sub cO [0]) (.block 0 (.loop (.seq (sub cO [1, 0, 0, 0]) (.seq (.cond (.tmp 10) .skip (.exit 0)) (.seq (.block 1 (.seq (sub cO [1, 0, 0, 1, 1, 0, 0, 0]) (.seq (sub cO [1, 0, 0, 1, 1, 0, 0, 1, 0]) (.seq (.seq (sub cO [1, 0, 0, 1, 1, 0, 0, 1, 1, 0, 0]) (.block 2 (.loop (sub cO [1, 0, 0, 1, 1, 0, 0, 1, 1, 0, 1, 0, 0])))) (.seq (.region 10 #[{ dst := some 30, op := .move (.tmp 0), type := 189, pos := "outcome.go:38", after := #[], guard := none }, { dst := some 31, op := .move (.tmp 4), type := 31, pos := "outcome.go:38", after := #[], guard := none }, { dst := some 32, op := .call { callee := .value (.tmp 30), args := #[.tmp 31], argTypes := #[31] }, type := 4, pos := "outcome.go:38", after := #[{ on := 0, ground := .data }, { on := 1, ground := .data }], guard := none }, { dst := some 33, op := .unOp .not 4 (.tmp 32), type := 4, pos := "outcome.go:38", after := #[{ on := 2, ground := .data }], guard := none }] false) (.cond (.tmp 33) .ret .skip)))))) (sub cO [1, 0, 0, 1, 1, 1])))))) := by kernel_rfl
 rw [c0];have hsame:∀ {W'},KpG F w W'→Rep (cxF F) [] W' (.rp [aG q] 0) v0:=fun hk=>by
  cases hr with
  | rp _ _ b o us h1 h2 h3 =>
   exact .rp _ _ b o us (fun i hi=>⟨(h1 i hi).1,(dR (hk.same b (h1 i hi).1) _).trans (h1 i hi).2⟩) (fun i hi=>(h2 i hi).mono (fun _ h=>h) hk.same) h3
 have hFw:∀ {W'},KpG F w W'→∀ b,F b→b<W'.heap.size:=fun hk b hb=>B5 (hF b hb) hk.size
 have R4:(1:Int)*2 ^ ((q.length:Int).toNat)=(N:Int):=by
  rw [aOh,Int.one_mul,← hN];push_cast;rfl
 have P1:InK (cxF F) w v0 ⟨fr 35 [(0,.yld l),(1,.rp [aG q] 0)],[]⟩ a w:=by
  refine ⟨⟨cxF F,aLi ha ?_,aTv hF,Fr.refl _ _ _,by rw [had];exact .nil rfl (mZ rfl)⟩,Kw,had⟩
  intro p hp;simp only [gG,List.not_mem_nil,or_false] at hp
  rcases hp with rfl | rfl
  ·rw [T0];exact .yld l
  ·rw [Kw];exact hr
 refine wpIn_seq ?_;refine InK.step (bMc (l:=l) (q:=q) ⟨by omega,by omega,rfl⟩ (by rw [R4];exact aTw (by omega))) (by kernel_rfl) P1 fun a1 w1 h1 => ?_
 rw [R4] at h1
 refine wpIn_block ?_;refine wpIn_loop_ghost (fun k a W=>∃ s,s≤N∧k=N-s∧Lp l v0 (N:Int) s a∧KpG F w W∧∃ pre:List (List Int × Value),pre.map (·.1)=(iK q).take s∧J pre W) (N)
  ⟨0,by omega,by omega,h1.lp (s:=0) (by rfl) (by rfl) (by rfl) (by rfl),h1.kp hF,[],by simp,hJ [] w w1 none h0 h1.grown (fun r e=>by cases e)⟩ ?_
 rintro k a W ⟨s,hs,rfl,hL,hK,pre,hpre,hJp⟩;have hI:=hL.ink (hFw hK) (hsame hK);have grow:∀ {W0 W':World} {ys},KpG F w W0→J ys W0→W0.grownBy W' none→J ys W':=fun hk hj hg=>hJ _ _ _ none hj hg (fun r e=>by cases e)
 refine wpIn_seq ?_;refine InK.step bMd (by kernel_rfl) hI fun a2 w2 h2 => ?_
 have M6:a2.eval (.tmp 10) = .bool (decide ((s:Int)<(N:Int))):=by
  obtain ⟨⟨C2,M7,_⟩,_⟩:=id h2;have:=tV M7 10 (by omega)
  show a2.tmps.getD 10 undef=_;revert this;generalize a2.tmps.getD 10 undef=u;intro this;have h3:Rep C2 _ w2 (.p (.v (.bool (decide ((s:Int)<(N:Int)))))) u:=this;cases h3 with
  | p _ _ h=>cases h;rfl
 refine wpIn_seq ?_
 by_cases hlt:s<N
 ·refine wpIn_cond_true (by rw [M6,decide_eq_true (by omega)]) (wpIn_skip ?_)
  show Code.wpIn _ _ _ _ _ _ _;have Eo:InK (cxF F) W v0 (stA l q (N:Int) s) a2 w2:=⟨(dU (g:=⟨[10],[],[],[]⟩) (k:=0) (cP _) (by kernel_rfl) h2.1),h2.2⟩
  refine wpIn_seq ?_;refine wpIn_block ?_;refine wpIn_seq ?_;refine InK.step bMe (by kernel_rfl) Eo fun a3 w3 h3 => ?_
  refine wpIn_seq ?_;refine InK.step bMf (by kernel_rfl) h3 fun a4 w4 h4 => ?_
  refine wpIn_seq ?_;refine wpIn_seq ?_;refine InK.step bMg (by kernel_rfl) h4 fun a5 w5 h5 => ?_
  refine bFr hq (by omega) h5 fun a6 w6 h6 => ?_
  refine wpIn_seq ?_;have Jg:Lp l v0 (N:Int) s a6:=h6.lp (s:=s) (by rfl) (by rfl) (by rfl) (by rfl)
  have hpl:pre.length=s:=by
   have:=congrArg List.length hpre;rw [A8,nI,vG,hN] at this
   omega
  have hrow:bFv Tp (gC q s q.length,a6.tmps.getD 4 undef) W w6:=h6.rowH (by rfl) (by rfl) (fL (aLj q s q.length) (by omega))
  have hmap:(pre++[(gC q s q.length,a6.tmps.getD 4 undef)]).map (·.1)=(iK q).take (s+1):=by
   rw [aZv q s (hN ▸ hlt),eE,hpre];rfl
  refine aHy Jg.size Jg.s0 rfl (hY pre _ W w6 hJp h6.grown hrow (by omega)) (A:=fun W'=>J (pre++[(gC q s q.length,a6.tmps.getD 4 undef)]) W'∧KpG F W W') (B:=fun W'=>Jx (pre++[(gC q s q.length,a6.tmps.getD 4 undef)]) W') ?_ ?_
  ·rintro a7 w7 ⟨P2,T6⟩ P3 P4 Js M8
   refine wpIn_cond_false M8 (wpIn_skip ?_);show Code.wpIn _ _ _ _ _ _ _;have T8:Lp l v0 (N:Int) s a7:=⟨P4,(Js 0 (by omega)).trans Jg.s0,(Js 1 (by omega)).trans Jg.s1,(Js 8 (by omega)).trans Jg.s8,(Js 9 (by omega)).trans Jg.s9,P3.trans Jg.df⟩
   have M9:=hK.trans T6;refine InK.step (bMm (aTw (by omega))) (by kernel_rfl) (T8.ink (hFw M9) (hsame M9)) fun a8 w8 h8 => ?_
   exact ⟨N-(s+1),by omega,s+1,by omega,rfl,h8.lp (by rfl) (by rfl) (by rfl) (by rfl),M9.trans (h8.kp (hFw M9)),_,hmap,grow M9 P2 h8.grown⟩
  ·rintro a7 w7 P2 P3 M8
   refine wpIn_cond_true M8 (wpIn_ret ?_);exact bodyPost_ret (results_none rfl _ _ _) (P3.trans Jg.df) (hR _ (.inr ⟨_,by rw [hmap];exact List.take_prefix _ _,P2⟩))
 ·have hsN:s=N:=by omega
  subst hsN;refine wpIn_cond_false (by rw [M6,decide_eq_false (by omega)]) (wpIn_exit ?_)
  have E9:Lp l v0 (s:Int) s a2:=h2.lp (by rfl) (by rfl) (by rfl) (by rfl)
  show Exit.inBlock 0 (bodyPost Tp Tryz.f181 R) (.exit 0) a2 w2;unfold Exit.inBlock;dsimp only;rw [if_pos rfl];refine ⟨E9.df,_,results_none rfl _ _ _,hR _ (.inl ⟨pre,?_,grow hK hJp h2.grown⟩)⟩;rw [hpre,← hN,← vG,List.take_length]
theorem bXq{C:Cx}{M:Mem}{w:World}{cs:List PV}{k:Nat}{u:Value}(h:Rep C M w (.rp cs k) u):Rep (cxF C.F) [] w (.rp cs k) u:=by
 cases h with
 | rp _ _ b o us h1 h2 h3=>exact .rp _ _ b o us h1 h2 h3
theorem bXr{F:Nat→Prop}{w W:World}{cs:List PV}{k:Nat}{u:Value}(h:Rep (cxF F) [] w (.rp cs k) u)(hk:KpG F w W):Rep (cxF F) [] W (.rp cs k) u:=by
 cases h with
 | rp _ _ b o us h1 h2 h3=>exact .rp _ _ b o us (fun i hi=>⟨(h1 i hi).1,(dR (hk.same b (h1 i hi).1) _).trans (h1 i hi).2⟩) (fun i hi=>(h2 i hi).mono (fun _ h=>h) hk.same) h3
theorem aZx(y v0:Value)(k:Nat):(#[y] ++ #[v0]++Array.replicate k undef).size=2+k∧(#[y] ++ #[v0]++Array.replicate k undef).getD 0 undef=y∧(#[y] ++ #[v0]++Array.replicate k undef).getD 1 undef=v0:=by
 refine ⟨by simp,?_,?_⟩ <;> simp [A4,Array.getElem?_append]
theorem aFj(q:List Int)(hq:q.length≤60):bOv Tp (.fn 181 [] [.rp [aG q] 0]) 181 (2 ^ q.length) (iK q):=fun C M w u Mv hFs=>by
 cases Mv with
 | fn _ _ _ us vs h1 h2 h3 h4 =>
  obtain rfl:us = #[]:=by simpa using h1
  have q0:=h4 0 (by simp)
  simp only [List.getElem_cons_zero] at q0
  obtain ⟨v0,rfl⟩:∃ v0,vs = #[v0]:=by
   have:vs.toList.length=1:=by simpa using h2
   match hv:vs.toList,this with
   | [x0],_=>exact ⟨x0,by rw [← hv]⟩
  change Rep C M w (.rp [aG q] 0) v0 at q0
  have hr:=bXq q0;refine ⟨#[v0],rfl,fun l J Jx W hW hJ hJx hY h0 => ?_⟩
  have hk:KpG C.F w W:=⟨hW.size,fun b hb=>hW.block b (hFs b hb)⟩
  have E5:=bXr hr hk;refine callsIn_of_wp func181 rfl trivial ?_ rfl;obtain ⟨k1,k2,k3⟩:=aZx (.func (.yield l) #[] #[]) v0 (Tryz.f181.ntmps-(#[Value.func (.yield l) #[] #[]] ++ #[v0]).size);exact aZw hq (fun b hb=>B5 (hFs b hb) hW.size) E5 (a:={ tmps := #[.func (.yield l) #[] #[]] ++ #[v0]++Array.replicate (Tryz.f181.ntmps-(#[Value.func (.yield l) #[] #[]] ++ #[v0]).size) undef,defers:=[] }) k1 k2 k3 rfl hJ hJx hY h0 fun W' h=>⟨⟨_,rfl⟩,h⟩
end KV
end Go.Proofs
end
namespace Go.Proofs
namespace KV
open Tryz
section
variable {r0 Bb:Bool}{m n dl tm bib Ah:Int}{dc sk:Lqq}{c l c' Ch:List Int}{i j i' i0 j' Aw Bn Og base:Nat}
variable {dl:Int}{sk dc:Lqq}

noncomputable abbrev mS:Code:=sub (cd Tryz.f163) [1,0,1,0,0]
noncomputable abbrev qU:Code:=sub (cd Tryz.f137) [1,1,1,0,1,0,0]
theorem bFn:((-1:Int) == (-1))=true:=by first | decide | simp
theorem aPw{q:List Int}:FV Tp 136 [(.p (aG q))] base (.fn 181 [] [(.rp [(aG q)] 0)]) []:=FV.fi func136 [.g 3 ⟨[],[],[0],[]⟩] gn
abbrev bFo(dl:Int)(sk dc:Lqq)(x:List Int)(r:Int):Prop:=∀ base:Nat,FV Tp 134 [qY dl sk dc,.p (.agg (x.map aA))] base (pI r) []
theorem bTx{y0 y1 y2 y3 y4 y5 r6:Int}(h0:bV .i64 (atF dc.reverse) (.int .i64 n))(h1:(cV (atF dc.reverse) (.int .i64 n))=true)(h2:eL (atF dc.reverse) (.int .i64 n)=some (dcE y0 y1 y2 y3 y4 y5))(h3:bFo dl sk dc [y0,y1,y2,y3,y4,y5] r6)(Ak:r0=(r6 != bib)):FV Tp 158 [(pI n),(.rp [(PV.rp (aR dl sk dc) 0)] 0),(.rp [(aA bib),(aA tm)] 0)] base (pB r0) []:=by
 subst Ak;exact FV.fi func158 [.x (PV.rp (aR dl sk dc) 0),.x (PV.rp (aR dl sk dc) 0),.x (.mp (atF dc.reverse)),bT,.x (dcE y0 y1 y2 y3 y4 y5),.c (pI r6) [],.x (aA bib)] (gr (aA bib) (gc (fk 0 (h3 _) rfl) (gc h2 (gc h1 (gc h0 (gr (.mp (atF dc.reverse)) (gr (PV.rp (aR dl sk dc) 0) (gr (PV.rp (aR dl sk dc) 0) gn))))))))
theorem bTy(Ak:r0=(n == m)):FV Tp 138 [(pI n),(.rp [(aA m)] 0)] base (pB r0) []:=by
 subst Ak;exact FV.fi func138 [.x (aA m)] (gr (aA m) gn)
abbrev bFp(dl:Int)(sk dc:Lqq):PV := .rp (aR dl sk dc) 0
abbrev aPx(dl:Int)(sk dc:Lqq)(bib tm n:Int)(b:Bool):Prop:=∀ base:Nat,FV Tp 158 [.p (aA n),.rp [bFp dl sk dc] 0,.rp [aA bib,aA tm] 0] base (pB b) []
theorem aHx(n m:Int){base:Nat}:FV Tp 138 [.p (aA n),.rp [aA m] 0] base (pB (n == m)) []:=bTy rfl
def fX(l:List Int)(dl:Int)(sk dc:Lqq)(bib tm:Int)(i:Nat):St:=⟨fr 19 [(0,(.own 0)),(1,(.fn 158 [] [(.rp [(PV.rp (aR dl sk dc) 0)] 0),(.rp [(aA bib),(aA tm)] 0)])),(7,(pI (l.length:Int))),(8,(pI (i:Int)))],[some (.row 3 l.length (l.map aA))]⟩
theorem bLv(hl0:aF Tp 1 mS (fX l dl sk dc bib tm 0) (.exit 0) (fX l dl sk dc bib tm Aw)):FMM Tp 163 [(.own 0),(.fn 158 [] [(.rp [(PV.rp (aR dl sk dc) 0)] 0),(.rp [(aA bib),(aA tm)] 0)])] [some (.row 3 l.length (l.map aA))] (pI (-1)) [some (.row 3 l.length (l.map aA))]:=FMM.fi 1 gE func163 [hl0.k 6 (gZ cx)] (gc hl0.code gn)
theorem bLw(hl0:aF Tp 1 mS (fX l dl sk dc bib tm 0) .ret (cC (fX l dl sk dc bib tm Aw) [(4,(pI (Aw:Int)))])):FMM Tp 163 [(.own 0),(.fn 158 [] [(.rp [(PV.rp (aR dl sk dc) 0)] 0),(.rp [(aA bib),(aA tm)] 0)])] [some (.row 3 l.length (l.map aA))] (pI (Aw:Int)) [some (.row 3 l.length (l.map aA))]:=FMM.fi 1 gE func163 [hl0.k 6 (gZ cx)] (gc hl0.code gn)
section
variable(h0:(i:Int)<(l.length:Int))(h1:l[i]? = some Ah)(h2:aPx dl sk dc bib tm Ah Bb)
include h0 h1 h2
theorem aPy(h3:Bb=true):aC Tp 1 mS (fX l dl sk dc bib tm i) .ret (cC (fX l dl sk dc bib tm i) [(4,(pI (i:Int)))]):=aC.fi (gZ cr) [bT,.x (aA Ah),.c (pB Bb) [],bT] (gc h3 (gc (fk 1 (h2 _) rfl) (gc (atm aA h1) (gc (cW (i:=(i:Int)) (hZ _) h1) (g0 h0)))))
theorem aPz(h3:Bb=false)(h4:da i)(Ai:i'=(i+1)):aC Tp 1 mS (fX l dl sk dc bib tm i) .normal (fX l dl sk dc bib tm i'):=by
 subst Ai;exact aC.fi (gZ cx) [bT,.x (aA Ah),.c (pB Bb) [],bF] (gc h4 (gc h3 (gc (fk 1 (h2 _) rfl) (gc (atm aA h1) (gc (cW (i:=(i:Int)) (hZ _) h1) (g0 h0))))))
end
theorem aQa(h0:(l.length:Int)≤(i:Int)):aC Tp 1 mS (fX l dl sk dc bib tm i) (.exit 0) (fX l dl sk dc bib tm i):=aC.fi (gZ cx) [bF] (gc (bA h0) gn)
abbrev bLx(l:List Int)(dl:Int)(sk dc:Lqq)(bib tm i:Int):Prop:=FMM Tp 163 [.own 0,(.fn 158 [] [(.rp [(PV.rp (aR dl sk dc) 0)] 0),(.rp [(aA bib),(aA tm)] 0)])] [some (.row 3 l.length (l.map aA))] (pI i) [some (.row 3 l.length (l.map aA))]
def mT(dl:Int)(sk dc:Lqq)(bib tm:Int)(cn:Nat)(cc:List PV)(i j:Nat):St:=⟨fr 42 [(0,(.own 0)),(1,(.fn 158 [] [(.rp [(PV.rp (aR dl sk dc) 0)] 0),(.rp [(aA bib),(aA tm)] 0)])),(4,(.p dY)),(5,(pI (i:Int))),(6,(pI (j:Int)))],[some (.row 3 cn cc)]⟩
theorem bTz{Dk:List PV}(h0:bLx l dl sk dc bib tm (i0:Int))(h1:(i0:Int)≠(-1:Int))(h2:da i0)(Bl:aF Tp 1 qU (mT dl sk dc bib tm l.length (l.map aA) i0 (i0+1)) (.exit 0) (mT dl sk dc bib tm Ch.length (Ch.map aA) Bn Og))(h4:0≤(Bn:Int)∧(Bn:Int)≤(Ch.length:Int)∧(Ch.length:Int)≤(Ch.length:Int))(h5:(Bn*1)+(Ch.length-Bn)≤(Ch.map aA).length)(h6:0≤(0:Int)∧(0:Int)≤(Bn:Int)∧(Bn:Int)≤(Ch.length:Int))(Cu:Dk=((((Ch.map aA).take (Bn*1)++List.replicate (Ch.length-Bn) (PV.v (.int .i64 0))++(Ch.map aA).drop ((Bn*1)+(List.replicate (Ch.length-Bn) (PV.v (.int .i64 0))).length)).drop 0).take (Bn*(((Ch.map aA).take (Bn*1)++List.replicate (Ch.length-Bn) (PV.v (.int .i64 0))++(Ch.map aA).drop ((Bn*1)+(List.replicate (Ch.length-Bn) (PV.v (.int .i64 0))).length)).length / Ch.length)))):FMM Tp 137 [(.own 0),(.fn 158 [] [(.rp [(PV.rp (aR dl sk dc) 0)] 0),(.rp [(aA bib),(aA tm)] 0)])] [some (.row 3 l.length (l.map aA))] (.p (.sl Bn Dk)) [some .dead]:=by
 subst Cu;have k1:=mq [0] 1 h0;exact FMM.fi 1 ⟨[],[],[0],[]⟩ func137 [k1.o,bF,Bl.k 4 (gZ cy)] (gc h6 (gc h5 (gc h4 (gc Bl.code (gc h2 (gc (bL h1) (gc k1 gn)))))))
theorem bUa(h0:bLx l dl sk dc bib tm (-1)):FMM Tp 137 [(.own 0),(.fn 158 [] [(.rp [(PV.rp (aR dl sk dc) 0)] 0),(.rp [(aA bib),(aA tm)] 0)])] [some (.row 3 l.length (l.map aA))] (.p (aG l)) [some .dead]:=have k1:=mq [0] 1 h0;FMM.fi 1 ⟨[],[],[0],[]⟩ func137 [k1.o,bT] (gc bFn (gc k1 gn))
section
variable(h0:(j:Int)<(c.length:Int))(h1:c[j]? = some Ah)(h2:aPx dl sk dc bib tm Ah Bb)
include h0 h1 h2
theorem aZp{P0:Int}(h3:Bb=false)(h4:c[i]? = some P0)(h5:(i*1)<(c.map aA).length)(h6:da i)(h7:da j)(Kd:c'.length=c.length)(Ke:c'.map aA=((c.map aA).set (i*1) (aA Ah)))(Ai:i'=(i+1))(Dx:j'=(j+1)):aC Tp 1 qU (mT dl sk dc bib tm c.length (c.map aA) i j) .normal (mT dl sk dc bib tm c'.length (c'.map aA) i' j'):=by
 subst Ai Dx;rw [Kd,Ke];exact aC.fi (gZ cy) [bT,.x (aA Ah),.c (pB Bb) [],bT] (gc h7 (gc h6 (gc h5 (gc (cW (i:=(i:Int)) (hZ _) h4) (gc (bZ h3) (gc (fk 1 (h2 _) rfl) (gc (atm aA h1) (gc (cW (i:=(j:Int)) (hZ _) h1) (g0 h0)))))))))
theorem aZq(h3:Bb=true)(h4:da j)(Dx:j'=(j+1)):aC Tp 1 qU (mT dl sk dc bib tm c.length (c.map aA) i j) .normal (mT dl sk dc bib tm c.length (c.map aA) i j'):=by
 subst Dx;exact aC.fi (gZ cy) [bT,.x (aA Ah),.c (pB Bb) [],bF] (gc h4 (gc (aV h3) (gc (fk 1 (h2 _) rfl) (gc (atm aA h1) (gc (cW (i:=(j:Int)) (hZ _) h1) (g0 h0))))))
end
theorem aZr(h0:(c.length:Int)≤(j:Int)):aC Tp 1 qU (mT dl sk dc bib tm c.length (c.map aA) i j) (.exit 0) (mT dl sk dc bib tm c.length (c.map aA) i j):=aC.fi (gZ cy) [bF] (gc (bA h0) gn)
def fY(l:List Int)(m:Int)(i:Nat):St:=⟨fr 19 [(0,(.own 0)),(1,(.fn 138 [] [(.rp [(aA m)] 0)])),(7,(pI (l.length:Int))),(8,(pI (i:Int)))],[some (.row 3 l.length (l.map aA))]⟩
theorem bLy(hl0:aF Tp 1 mS (fY l m 0) (.exit 0) (fY l m Aw)):FMM Tp 163 [(.own 0),(.fn 138 [] [(.rp [(aA m)] 0)])] [some (.row 3 l.length (l.map aA))] (pI (-1)) [some (.row 3 l.length (l.map aA))]:=FMM.fi 1 gE func163 [hl0.k 6 (gZ cx)] (gc hl0.code gn)
theorem bLz(hl0:aF Tp 1 mS (fY l m 0) .ret (cC (fY l m Aw) [(4,(pI (Aw:Int)))])):FMM Tp 163 [(.own 0),(.fn 138 [] [(.rp [(aA m)] 0)])] [some (.row 3 l.length (l.map aA))] (pI (Aw:Int)) [some (.row 3 l.length (l.map aA))]:=FMM.fi 1 gE func163 [hl0.k 6 (gZ cx)] (gc hl0.code gn)
section
variable(h0:(i:Int)<(l.length:Int))(h1:l[i]? = some Ah)
include h0 h1
theorem aQb(h2:(Ah == m)=true):aC Tp 1 mS (fY l m i) .ret (cC (fY l m i) [(4,(pI (i:Int)))]):=aC.fi (gZ cr) [bT,.x (aA Ah),.c (pB (Ah == m)) [],bT] (gc h2 (gc (fk 1 (aHx Ah m) rfl) (gc (atm aA h1) (gc (cW (i:=(i:Int)) (hZ _) h1) (g0 h0)))))
theorem aQc(h2:(Ah == m)=false)(h3:da i)(Ai:i'=(i+1)):aC Tp 1 mS (fY l m i) .normal (fY l m i'):=by
 subst Ai;exact aC.fi (gZ cx) [bT,.x (aA Ah),.c (pB (Ah == m)) [],bF] (gc h3 (gc h2 (gc (fk 1 (aHx Ah m) rfl) (gc (atm aA h1) (gc (cW (i:=(i:Int)) (hZ _) h1) (g0 h0))))))
end
theorem aQd(h0:(l.length:Int)≤(i:Int)):aC Tp 1 mS (fY l m i) (.exit 0) (fY l m i):=aC.fi (gZ cx) [bF] (gc (bA h0) gn)
abbrev bMa(l:List Int)(m i:Int):Prop:=FMM Tp 163 [.own 0,(.fn 138 [] [(.rp [(aA m)] 0)])] [some (.row 3 l.length (l.map aA))] (pI i) [some (.row 3 l.length (l.map aA))]
def mU(m:Int)(cn:Nat)(cc:List PV)(i j:Nat):St:=⟨fr 42 [(0,(.own 0)),(1,(.fn 138 [] [(.rp [(aA m)] 0)])),(4,(.p dY)),(5,(pI (i:Int))),(6,(pI (j:Int)))],[some (.row 3 cn cc)]⟩
theorem bUb{Dk:List PV}(h0:bMa l m (i0:Int))(h1:(i0:Int)≠(-1:Int))(h2:da i0)(Bl:aF Tp 1 qU (mU m l.length (l.map aA) i0 (i0+1)) (.exit 0) (mU m Ch.length (Ch.map aA) Bn Og))(h4:0≤(Bn:Int)∧(Bn:Int)≤(Ch.length:Int)∧(Ch.length:Int)≤(Ch.length:Int))(h5:(Bn*1)+(Ch.length-Bn)≤(Ch.map aA).length)(h6:0≤(0:Int)∧(0:Int)≤(Bn:Int)∧(Bn:Int)≤(Ch.length:Int))(Cu:Dk=((((Ch.map aA).take (Bn*1)++List.replicate (Ch.length-Bn) (PV.v (.int .i64 0))++(Ch.map aA).drop ((Bn*1)+(List.replicate (Ch.length-Bn) (PV.v (.int .i64 0))).length)).drop 0).take (Bn*(((Ch.map aA).take (Bn*1)++List.replicate (Ch.length-Bn) (PV.v (.int .i64 0))++(Ch.map aA).drop ((Bn*1)+(List.replicate (Ch.length-Bn) (PV.v (.int .i64 0))).length)).length / Ch.length)))):FMM Tp 137 [(.own 0),(.fn 138 [] [(.rp [(aA m)] 0)])] [some (.row 3 l.length (l.map aA))] (.p (.sl Bn Dk)) [some .dead]:=by
 subst Cu;have k1:=mq [0] 1 h0;exact FMM.fi 1 ⟨[],[],[0],[]⟩ func137 [k1.o,bF,Bl.k 4 (gZ cy)] (gc h6 (gc h5 (gc h4 (gc Bl.code (gc h2 (gc (bL h1) (gc k1 gn)))))))
theorem bUc(h0:bMa l m (-1)):FMM Tp 137 [(.own 0),(.fn 138 [] [(.rp [(aA m)] 0)])] [some (.row 3 l.length (l.map aA))] (.p (aG l)) [some .dead]:=have k1:=mq [0] 1 h0;FMM.fi 1 ⟨[],[],[0],[]⟩ func137 [k1.o,bT] (gc bFn (gc k1 gn))
section
variable(h0:(j:Int)<(c.length:Int))(h1:c[j]? = some Ah)
include h0 h1
theorem aZs{Cj:Int}(h2:(Ah == m)=false)(h3:c[i]? = some Cj)(h4:(i*1)<(c.map aA).length)(h5:da i)(h6:da j)(Kd:c'.length=c.length)(Ke:c'.map aA=((c.map aA).set (i*1) (aA Ah)))(Ai:i'=(i+1))(Dx:j'=(j+1)):aC Tp 1 qU (mU m c.length (c.map aA) i j) .normal (mU m c'.length (c'.map aA) i' j'):=by
 subst Ai Dx;rw [Kd,Ke];exact aC.fi (gZ cy) [bT,.x (aA Ah),.c (pB (Ah == m)) [],bT] (gc h6 (gc h5 (gc h4 (gc (cW (i:=(i:Int)) (hZ _) h3) (gc (bZ h2) (gc (fk 1 (aHx Ah m) rfl) (gc (atm aA h1) (gc (cW (i:=(j:Int)) (hZ _) h1) (g0 h0)))))))))
theorem aZt(h2:(Ah == m)=true)(h3:da j)(Dx:j'=(j+1)):aC Tp 1 qU (mU m c.length (c.map aA) i j) .normal (mU m c.length (c.map aA) i j'):=by
 subst Dx;exact aC.fi (gZ cy) [bT,.x (aA Ah),.c (pB (Ah == m)) [],bF] (gc h3 (gc (aV h2) (gc (fk 1 (aHx Ah m) rfl) (gc (atm aA h1) (gc (cW (i:=(j:Int)) (hZ _) h1) (g0 h0))))))
end
theorem aZu(h0:(c.length:Int)≤(j:Int)):aC Tp 1 qU (mU m c.length (c.map aA) i j) (.exit 0) (mU m c.length (c.map aA) i j):=aC.fi (gZ cy) [bF] (gc (bA h0) gn)
end
section
structure yQ (p:Int→Bool) (l:List Int) (j:Nat) (x:List Int × Nat):Prop where
 len:x.1.length=l.length
 le:x.2<j
 kept:x.1.take x.2=(l.take j).filter fun n => !p n
 rest:x.1.drop j=l.drop j
theorem yQ.skip{p:Int→Bool}{l:List Int}{j:Nat}{x:List Int × Nat}(h:yQ p l j x)(hj:j<l.length){n:Int}(hn:x.1[j]? = some n)(hp:p n=true):yQ p l (j+1) x:=by
 have hl:l[j]? = some n:=by
  have:=congrArg (·[0]?) h.rest
  simp only [List.getElem?_drop,Nat.add_zero] at this
  rw [← this];exact hn
 refine ⟨h.len,by have:=h.le;omega,?_,?_⟩
 ·rw [h.kept,List.take_add_one,hl]
  simp [sD,hp]
 ·rw [← List.drop_drop,h.rest,List.drop_drop]
theorem yQ.keep{p:Int→Bool}{l:List Int}{j:Nat}{x:List Int × Nat}(h:yQ p l j x)(hj:j<l.length){n:Int}(hn:x.1[j]? = some n)(hp:p n=false):yQ p l (j+1) (x.1.set x.2 n,x.2+1):=by
 have hl:l[j]? = some n:=by
  have:=congrArg (·[0]?) h.rest
  simp only [List.getElem?_drop,Nat.add_zero] at this
  rw [← this];exact hn
 have hle:=h.le;have hlen:=h.len;refine ⟨by simp [h.len],by simpa using hle,?_,?_⟩
 ·show (x.1.set x.2 n).take (x.2+1)=_
  rw [List.take_add_one,List.take_set_of_le (cP _),h.kept,bIy (by omega),List.take_add_one,hl]
  simp [sD,hp]
 ·show (x.1.set x.2 n).drop (j+1)=_
  rw [List.drop_set_of_lt (by omega),← List.drop_drop,h.rest,List.drop_drop]
theorem yQ.start{p:Int→Bool}{l:List Int}{i:Nat}{n:Int}(hi:l[i]? = some n)(hp:p n=true)(hb:∀ m∈l.take i,p m=false):yQ p l (i+1) (l,i):=by
 refine ⟨rfl,Nat.lt_succ_self _,?_,rfl⟩;show l.take i=_;rw [List.take_add_one,hi];simp only [sD];rw [List.filter_eq_self.2 fun m hm=>by simp [hb m hm]]
 simp [hp]
theorem yC{p:Int→Bool}{l:List Int}{i:Nat}(h:l.findIdx? p=some i):∀ m∈l.take i,p m=false:=fun m hm=>by
 obtain ⟨hi,h1,h2⟩:=List.findIdx?_eq_some_iff_getElem.1 h;obtain ⟨j,hj,rfl⟩:=List.getElem_of_mem hm;rw [List.getElem_take];rw [nI] at hj
 have:=h2 j (by omega)
 simpa using this

theorem bLt{l:List Int}{dl:Int}{sk dc:Lqq}{bib tm:Int}(hl:l.length≤1000){p:Int→Bool}(hp:∀ n∈l,aPx dl sk dc bib tm n (p n)) :
  (∃ i n,l[i]? = some n∧l.findIdx? p=some i∧p n=true∧bLx l dl sk dc bib tm (i:Int))∨(l.any p=false∧bLx l dl sk dc bib tm (-1)):=by
 rcases aF.find (P:=Tp) (k:=1) (b:=(sub (cd Tryz.f163) cw)) (fun i=>fX l dl sk dc bib tm i) (fun i _=>cC (fX l dl sk dc bib tm i) [(4,.p (aA (i:Int)))]) (fX l dl sk dc bib tm l.length) .ret (.exit 0) (by simp) (by simp) p l
  (fun i x hx hq=>aPz (by have:=aX hx;omega) hx (hp x (Bf hx)) hq (aM (by have:=aX hx;omega)) rfl)
  (fun i x hx hq=>aPy (by have:=aX hx;omega) hx (hp x (Bf hx)) hq)
  (aQa (by omega)) with ⟨i,x,h1,h2,h3,h4⟩ | ⟨h1,h2,h3⟩
 ·exact .inl ⟨i,x,h1,h2,h3,bLw h4⟩
 ·exact .inr ⟨h2,bLv h3⟩
theorem bTw{l:List Int}{dl:Int}{sk dc:Lqq}{bib tm:Int}(hl:l.length≤1000){p:Int→Bool}(hp:∀ n∈l,aPx dl sk dc bib tm n (p n)) :
  FMM Tp 137 [.own 0,.fn 158 [] [.rp [bFp dl sk dc] 0,.rp [aA bib,aA tm] 0]] [some (.row 3 l.length (l.map aA))] (.p (aG (l.filter fun n => !p n))) [some .dead]:=by
 rcases bLt hl hp with ⟨i,n,h1,h2,h3,h4⟩ | ⟨h1,h2⟩
 ·have hi:=aX h1
  obtain ⟨d,hm⟩:∃ d,i+1+d=l.length:=⟨l.length-(i+1),by omega⟩
  obtain ⟨⟨c,k⟩,hI,hL⟩:=aF.ex (P:=Tp) (k:=1) (b:=(sub (cd Tryz.f137) cf)) (e := .exit 0) (fun j (x:List Int × Nat)=>mT dl sk dc bib tm x.1.length (x.1.map aA) x.2 (i+1+j)) (fun x=>mT dl sk dc bib tm x.1.length (x.1.map aA) x.2 l.length) (fun j x=>yQ p l (i+1+j) x∧∀ n∈x.1,n∈l) (by simp) d
   (fun j x hj hx=>by
    obtain ⟨hI,hs⟩:=hx;have hlt:i+1+j<x.1.length:=by rw [hI.len];omega
    have hle:=hI.le;have hlen:=hI.len;obtain ⟨y,hy⟩:∃ y,x.1[i+1+j]? = some y:=⟨_,Ap hlt⟩;have hyl:=hs y (Bf hy);cases hq:p y with
    | true=>exact ⟨x,⟨hI.skip (by omega) hy hq,hs⟩,aZq (by omega) hy (hp y hyl) hq (aM (by omega)) rfl⟩
    | false =>
     obtain ⟨z,hz⟩:∃ z,x.1[x.2]? = some z:=⟨_,Ap (by omega)⟩
     refine ⟨_,⟨hI.keep (by omega) hy hq,fun n hn => ?_⟩,aZp (c:=x.1) (c':=x.1.set x.2 y) (by omega) hy (hp y hyl) hq hz (by rw [A8];omega) (aM (by omega)) (aM (by omega)) (by simp) (by rw [List.map_set,Nat.mul_one]) rfl rfl⟩
     rcases List.mem_or_eq_of_mem_set hn with h | rfl
     ·exact hs n h
     ·exact hyl)
   (fun x hx=>by
    have:=aZr (dl:=dl) (sk:=sk) (dc:=dc) (bib:=bib) (tm:=tm) (c:=x.1) (i:=x.2) (j:=l.length) (by rw [hx.1.len];omega)
    rw [show i+1+d=l.length from hm];exact this)
   (acc:=(l,i)) ⟨yQ.start h1 h3 (yC h2),fun n h=>h⟩
  obtain ⟨hI,_⟩:=hI;have hlen:=hI.len;have hle:=hI.le;have hk:=hI.kept;simp only [hm,List.take_length] at hlen hle hk
  have fin:=bTz (l:=l) (Ch:=c) (Bn:=k) (Og:=l.length) (Dk:=(c.take k).map aA) h4 (by omega) (aM (by omega)) hL ⟨by omega,by omega,by omega⟩ (by rw [A8];omega) ⟨by omega,by omega,by omega⟩ (by
   rw [List.drop_zero,Nat.mul_one,List.length_replicate];have E9:(((c.map aA).take k)++List.replicate (c.length-k) (PV.v (.int .i64 0))++(c.map aA).drop (k+(c.length-k))).length=c.length:=by
    simp only [fK,nI,A8,List.length_replicate,bJb];omega
   rw [E9,Nat.div_self (by omega),Nat.mul_one,List.append_assoc,List.take_append_of_le_length (by rw [nI,A8];omega),List.take_take,Nat.min_self,List.map_take])
  rw [← hk];have e:aG (c.take k) = .sl k ((c.take k).map aA):=by
   show PV.sl (c.take k).length _=_;rw [nI,Nat.min_eq_left (by omega)]
  rw [e];exact fin
 ·have:(l.filter fun n => !p n)=l:=List.filter_eq_self.2 fun n hn=>by
   have:=List.any_eq_false.1 h1 n hn;simpa using this
  rw [this];exact bUa h2

theorem bLu{l:List Int}{m:Int}(hl:l.length≤1000){p:Int→Bool}(hp:∀ n∈l,p n=(n == m)) :
  (∃ i n,l[i]? = some n∧l.findIdx? p=some i∧p n=true∧bMa l m (i:Int))∨(l.any p=false∧bMa l m (-1)):=by
 rcases aF.find (P:=Tp) (k:=1) (b:=(sub (cd Tryz.f163) cw)) (fun i=>fY l m i) (fun i _=>cC (fY l m i) [(4,.p (aA (i:Int)))]) (fY l m l.length) .ret (.exit 0) (by simp) (by simp) p l
  (fun i x hx hq=>aQc (by have:=aX hx;omega) hx (by rw [← hp x (Bf hx)];exact hq) (aM (by have:=aX hx;omega)) rfl)
  (fun i x hx hq=>aQb (by have:=aX hx;omega) hx (by rw [← hp x (Bf hx)];exact hq))
  (aQd (by omega)) with ⟨i,x,h1,h2,h3,h4⟩ | ⟨h1,h2,h3⟩
 ·exact .inl ⟨i,x,h1,h2,h3,bLz h4⟩
 ·exact .inr ⟨h2,bLy h3⟩
theorem bFm{l:List Int}{m:Int}(hl:l.length≤1000){p:Int→Bool}(hp:∀ n∈l,p n=(n == m)) :
  FMM Tp 137 [.own 0,.fn 138 [] [.rp [aA m] 0]] [some (.row 3 l.length (l.map aA))] (.p (aG (l.filter fun n => !p n))) [some .dead]:=by
 rcases bLu hl hp with ⟨i,n,h1,h2,h3,h4⟩ | ⟨h1,h2⟩
 ·have hi:=aX h1
  obtain ⟨d,hm⟩:∃ d,i+1+d=l.length:=⟨l.length-(i+1),by omega⟩
  obtain ⟨⟨c,k⟩,hI,hL⟩:=aF.ex (P:=Tp) (k:=1) (b:=(sub (cd Tryz.f137) cf)) (e := .exit 0) (fun j (x:List Int × Nat)=>mU m x.1.length (x.1.map aA) x.2 (i+1+j)) (fun x=>mU m x.1.length (x.1.map aA) x.2 l.length) (fun j x=>yQ p l (i+1+j) x∧∀ n∈x.1,n∈l) (by simp) d
   (fun j x hj hx=>by
    obtain ⟨hI,hs⟩:=hx;have hlt:i+1+j<x.1.length:=by rw [hI.len];omega
    have hle:=hI.le;have hlen:=hI.len;obtain ⟨y,hy⟩:∃ y,x.1[i+1+j]? = some y:=⟨_,Ap hlt⟩;have hyl:=hs y (Bf hy);cases hq:p y with
    | true=>exact ⟨x,⟨hI.skip (by omega) hy hq,hs⟩,aZt (by omega) hy (by rw [← hp y hyl];exact hq) (aM (by omega)) rfl⟩
    | false =>
     obtain ⟨z,hz⟩:∃ z,x.1[x.2]? = some z:=⟨_,Ap (by omega)⟩
     refine ⟨_,⟨hI.keep (by omega) hy hq,fun n hn => ?_⟩,aZs (c:=x.1) (c':=x.1.set x.2 y) (by omega) hy (by rw [← hp y hyl];exact hq) hz (by rw [A8];omega) (aM (by omega)) (aM (by omega)) (by simp) (by rw [List.map_set,Nat.mul_one]) rfl rfl⟩
     rcases List.mem_or_eq_of_mem_set hn with h | rfl
     ·exact hs n h
     ·exact hyl)
   (fun x hx=>by
    have:=aZu (m:=m) (c:=x.1) (i:=x.2) (j:=l.length) (by rw [hx.1.len];omega)
    rw [show i+1+d=l.length from hm];exact this)
   (acc:=(l,i)) ⟨yQ.start h1 h3 (yC h2),fun n h=>h⟩
  obtain ⟨hI,_⟩:=hI;have hlen:=hI.len;have hle:=hI.le;have hk:=hI.kept;simp only [hm,List.take_length] at hlen hle hk
  have fin:=bUb (l:=l) (Ch:=c) (Bn:=k) (Og:=l.length) (Dk:=(c.take k).map aA) h4 (by omega) (aM (by omega)) hL ⟨by omega,by omega,by omega⟩ (by rw [A8];omega) ⟨by omega,by omega,by omega⟩ (by
   rw [List.drop_zero,Nat.mul_one,List.length_replicate];have E9:(((c.map aA).take k)++List.replicate (c.length-k) (PV.v (.int .i64 0))++(c.map aA).drop (k+(c.length-k))).length=c.length:=by
    simp only [fK,nI,A8,List.length_replicate,bJb];omega
   rw [E9,Nat.div_self (by omega),Nat.mul_one,List.append_assoc,List.take_append_of_le_length (by rw [nI,A8];omega),List.take_take,Nat.min_self,List.map_take])
  rw [← hk];have e:aG (c.take k) = .sl k ((c.take k).map aA):=by
   show PV.sl (c.take k).length _=_;rw [nI,Nat.min_eq_left (by omega)]
  rw [e];exact fin
 ·have:(l.filter fun n => !p n)=l:=List.filter_eq_self.2 fun n hn=>by
   have:=List.any_eq_false.1 h1 n hn;simpa using this
  rw [this];exact bUc h2
end
section
open Go.RowKit Go.Lib Go.Shelf
theorem bTu{n:Nat}{x:PV}{r:List PV}{Kx:Nat}{Dk:List PV}(h0:(x::r).length=n*1∧0+n≤1000000)(Kc:Kx=(0+n))(Cu:Dk=(x::r)){base:Nat}:FV Tp 107 [(.p (.sl n (x::r)))] base (.own base) [(base,(.row 3 Kx Dk))]:=by
 subst Kc Cu;exact FV.fi func107 [] (gc h0 gn)
set_option maxHeartbeats 1000000 in
theorem bLs(n c:Nat)(w:World):Calls Tp 107 #[.slice none n c] w fun e w'=>e = .returned (.slice none 0 0)∧w'=w:=by
 have Ty:∀ (w:World) (a:Option Addr) (n c n' c':Nat),(binOp .eql 31 (.slice a n c) (.slice none n' c')).run Tp w = .ok (.bool a.isNone) w:=fun w a n c n' c'=>Lib.run_eql_slice_nil w _ _ a n c n' c' Tryz.underlying31
 go_enter func107,Tryz.ntmps107
 go_wp2
 go_ret
 exact ⟨rfl,rfl⟩
theorem Pz:(Tryz.prog.info? 3).map (fun i=>(i.zero,i.size,i.bytes))=some (some (.int .i64 0),1,8):=by kernel_rfl
set_option maxHeartbeats 2000000 in
theorem bFl(a:Addr)(c:Nat)(w:World):Calls Tp 107 #[.slice (some a) 0 c] w fun e w'=>∃ v',e = .returned v'∧w'.ownsRow w.heap.size 3 1 v' 0 []∧Below w.heap.size w w':=by
 obtain ⟨i0,hi,Lg,D9,Ks⟩:=info_parts Pz;have Ty:∀ (w:World) (a:Option Addr) (n c n' c':Nat),(binOp .eql 31 (.slice a n c) (.slice none n' c')).run Tp w = .ok (.bool a.isNone) w:=fun w a n c n' c'=>Lib.run_eql_slice_nil w _ _ a n c n' c' Tryz.underlying31
 go_enter func107,Tryz.ntmps107
 go_wp2_with (at_builtin;refine wpList_append_own _ rfl _ _ 31 rfl w.heap.size 3 i0 (.int .i64 0) 1 8 Tryz.underlying31 hi Lg D9 Ks rfl (by decide) _ _ _ rfl (World.ownsRow_made w #[] 0 (cP _) (Nat.zero_le _) rfl) a 0 c [] rfl rfl (by intro j u hj;simp at hj) (by intro u hu;cases hu) (by unfold maxLen;omega) (by omega) (by simp) ?_)
 intro v' w1 hown hgrow hnil
 go_wp2
 go_ret
 refine ⟨v',rfl,by simpa using hown,?_⟩
 exact ((Below.refl _ w).alloc (cP _) _).grown hgrow (by simp) (by intro k hk;simp [Value.ownBlock] at hk;omega)
theorem aZo{base:Nat}:FV Tp 107 [.p (.sl 0 [])] base (.own base) [(base,.row 3 0 [])]:=aYj (rX (show (Tryz.prog.info? 3).map (fun i=>i.size)=some 1 by kernel_rfl)) fun p c w=>by
 cases p with
 | none =>
  refine (bLs 0 c w).mono ?_;rintro e w' ⟨rfl,rfl⟩;exact ⟨_,rfl,World.ownsRow_nil _ _ _ _,Below.refl _ _⟩
 | some a=>exact bFl a c w
theorem bTv(l:List Int)(hl:l.length≤1000){base:Nat}:FV Tp 107 [.p (aG l)] base (.own base) [(base,.row 3 l.length (l.map aA))]:=by
 cases l with
 | nil=>exact aZo
 | cons x l=>exact bTu (n:=(x::l).length) (x:=aA x) (r:=l.map aA) ⟨by simp,by simp at hl ⊢;omega⟩ (by simp) rfl
end
section
variable {Ee:Bool}{mn mx Oe Of n200 Aa Ab:Int}{T202:Lqb}{x Bo:List Int}{i aln chn Ig:Nat}
variable {dl:Int}{sk dc:Lqq}

theorem aHu:0≤(1:Int)∧(1:Int)<2:=by first | decide | simp
theorem aHv:0≤(0:Int)∧(0:Int)<2:=by first | decide | simp
abbrev bYc(l:List Int)(dl:Int)(sk dc:Lqq)(bib tm:Int)(o:List Int):Prop:=FMM Tp 137 [.own 0,.fn 158 [] [.rp [bFp dl sk dc] 0,.rp [aA bib,aA tm] 0]] [some (.row 3 l.length (l.map aA))] (.p (aG o)) [some .dead]
def chE(x:Int × Bool × List Int):List PV:=[aA x.1,blP x.2.1,aG x.2.2]
def mR(dl:Int)(sk dc:Lqq)(aln:Nat)(alc:List PV)(i:Nat):St:=⟨fr 77 [(1,(.rp [(PV.rp (aR dl sk dc) 0)] 0)),(2,(.p dY)),(3,(pI 0)),(4,(.p (aG (aU dl dc)))),(5,(.own 0)),(22,(.p (fS sk))),(23,(pI (sk.length:Int))),(24,(pI (i:Int)))],[some (.row 232 aln alc)]⟩
theorem bTt{Je:Nat}{Jf:List PV}{Gp:Nat}(h0:bS dc)(h1:((aU dl dc).length:Int)≤8)(Bu:aF Tp 0 (sub (cd Tryz.f91) c6) (mR dl sk dc 0 [] 0) (.exit 0) (mR dl sk dc Je Jf Gp)){base:Nat}:FV Tp 91 [(.rp (aR dl sk dc) 0)] base (.tup [(.own base),(pI 0)]) [(base,(.row 232 Je Jf))]:=have k1:=fk 0 (qV (dl:=dl) (sk:=sk) (dc:=dc) h0) rfl;FV.fi func91 [.g 3 ⟨[],[],[0],[]⟩,.x (PV.rp (aR dl sk dc) 0),k1.o,.g 2 ⟨[],[],[0],[]⟩,bF,.x (PV.rp (aR dl sk dc) 0),.x (fS sk),Bu.k 1 (gN [0,1,6,16,25,51] [0] [(5,232)])] (gc Bu.code (gr (fS sk) (gr (PV.rp (aR dl sk dc) 0) (gc (bA h1) (gc k1 (gr (PV.rp (aR dl sk dc) 0) gn))))))
def aHw(dl:Int)(sk dc:Lqq)(aln:Nat)(alc:List PV)(i:Nat)(Aa Ab:Int)(Bo:List Int)(chn:Nat)(chc:List PV)(mn mx:Int):St:=⟨fr 77 [(1,(.rp [(PV.rp (aR dl sk dc) 0)] 0)),(2,(.p dY)),(3,(pI 0)),(4,(.p (aG (aU dl dc)))),(5,(.own 0)),(7,(.rp [(aA Aa),(aA Ab)] 0)),(8,(.p (aG Bo))),(9,(.ptr 2 0)),(22,(.p (fS sk))),(23,(pI (sk.length:Int))),(24,(pI (i:Int))),(25,(pB (decide ((i:Int)<(sk.length:Int))))),(26,(.rp (sk.flatten.map aA) (i*2))),(27,(.p (.agg [(aA Aa),(aA Ab)]))),(28,(.p (aG (aU dl dc)))),(29,(.own 1)),(30,(.fn 158 [] [(.rp [(PV.rp (aR dl sk dc) 0)] 0),(.rp [(aA Aa),(aA Ab)] 0)])),(31,(.p (aG Bo))),(32,(.p (.agg [(aA 1099511627776),(aA 0)]))),(33,(.p (.agg [dY,(aA 1099511627776),(aA 0)]))),(34,(.p (aG Bo))),(35,(.fn 181 [] [(.rp [(aG Bo)] 0)]))],[some (.row 232 aln alc),some .dead,some (.box 232 [(.own 3),(pI mn),(pI mx)]),some (.row 234 chn chc)]⟩
def aPu(dl:Int)(sk dc:Lqq)(aln:Nat)(alc:List PV)(i:Nat)(Aa Ab:Int)(Bo:List Int):St:=⟨fr 77 [(1,(.rp [(PV.rp (aR dl sk dc) 0)] 0)),(2,(.p dY)),(3,(pI 0)),(4,(.p (aG (aU dl dc)))),(5,(.own 0)),(7,(.rp [(aA Aa),(aA Ab)] 0)),(8,(.p (aG Bo))),(9,(.ptr 2 0)),(22,(.p (fS sk))),(23,(pI (sk.length:Int))),(24,(pI (i:Int))),(25,(pB (decide ((i:Int)<(sk.length:Int))))),(26,(.rp (sk.flatten.map aA) (i*2))),(27,(.p (.agg [(aA Aa),(aA Ab)]))),(28,(.p (aG (aU dl dc)))),(29,(.own 1)),(30,(.fn 158 [] [(.rp [(PV.rp (aR dl sk dc) 0)] 0),(.rp [(aA Aa),(aA Ab)] 0)])),(31,(.p (aG Bo))),(32,(.p (.agg [(aA 1099511627776),(aA 0)]))),(33,(.p (.agg [dY,(aA 1099511627776),(aA 0)]))),(34,(.p (aG Bo))),(35,(.fn 181 [] [(.rp [(aG Bo)] 0)]))],[some (.row 232 aln alc),some .dead,some (.box 232 [(.p dY),(pI 1099511627776),(pI 0)])]⟩
theorem aZk{alc:List PV}{Dq:Nat}{Dr:List PV}{Er Es:Int}{Mz:Nat}{M3:List PV}{i':Nat}(h0:(i:Int)<(sk.length:Int))(h1:sk[i]? = some [Aa,Ab])(h2:uni 2 sk)(h3:(aU dl dc).length≤1000)(h4:bYc (aU dl dc) dl sk dc Aa Ab Bo)(F9:aC Tp 0 (sub (cd Tryz.f91) ak) (aPu dl sk dc aln alc i Aa Ab Bo) .normal (aHw dl sk dc aln alc i Aa Ab Bo Dq Dr Er Es))(h6:[(.sl Dq Dr),(aA Er),(aA Es)].length=1*3∧aln+1≤1000000)(h7:da i)(M4:Mz=(aln+1))(M5:M3=(alc++[(.sl Dq Dr),(aA Er),(aA Es)]))(Ai:i'=(i+1)):aC Tp 0 (sub (cd Tryz.f91) c6) (mR dl sk dc aln alc i) .normal (mR dl sk dc Mz M3 i'):=by
 subst M4 M5 Ai;have k1:=fk 1 (bTv (aU dl dc) h3) rfl;have k2:=mq [1] 2 h4;have k3:=fk 3 (aPw (q:=Bo)) rfl;exact aC.fi (gI [0,1,6,16,25,51] [3]) [bT,.x (.agg [(aA Aa),(aA Ab)]),.g 1 ⟨[],[0],[1],[]⟩,k1.o,k2.o,k3.o,F9.k 1 (gI bj [0,1,2]),.g 0 ⟨[29],[0,2],[3],[]⟩] (gc h7 (gc h6 (gt ([(.sl Dq Dr),(aA Er),(aA Es)].length=3) (by first | decide | simp) (gc F9 (gc k3 (gc k2 (gc k1 (gfl h2 h1 (g0 h0)))))))))
theorem aZl{alc:List PV}(h0:(sk.length:Int)≤(i:Int)):aC Tp 0 (sub (cd Tryz.f91) c6) (mR dl sk dc aln alc i) (.exit 0) (mR dl sk dc aln alc i):=aC.fi (gI [0,1,6,16,25,51] [0]) [bF] (gc (bA h0) gn)
def aPv(dl:Int)(sk dc:Lqq)(aln:Nat)(alc:List PV)(i:Nat)(Aa Ab:Int)(Bo:List Int)(chn:Nat)(chc:List PV)(mn mx:Int):St:=⟨fr 77 [(1,(.rp [(PV.rp (aR dl sk dc) 0)] 0)),(2,(.p dY)),(3,(pI 0)),(4,(.p (aG (aU dl dc)))),(5,(.own 0)),(7,(.rp [(aA Aa),(aA Ab)] 0)),(8,(.p (aG Bo))),(9,(.ptr 2 0)),(22,(.p (fS sk))),(23,(pI (sk.length:Int))),(24,(pI (i:Int))),(25,(pB (decide ((i:Int)<(sk.length:Int))))),(26,(.rp (sk.flatten.map aA) (i*2))),(27,(.p (.agg [(aA Aa),(aA Ab)]))),(28,(.p (aG (aU dl dc)))),(30,(.fn 158 [] [(.rp [(PV.rp (aR dl sk dc) 0)] 0),(.rp [(aA Aa),(aA Ab)] 0)])),(31,(.p (aG Bo))),(32,(.p (.agg [(aA 1099511627776),(aA 0)]))),(33,(.p (.agg [dY,(aA 1099511627776),(aA 0)]))),(34,(.p (aG Bo))),(35,(.fn 181 [] [(.rp [(aG Bo)] 0)]))],[some (.row 232 aln alc),some .dead,some (.box 232 [(.own 5),(pI mn),(pI mx)]),some .dead,some .dead,some (.row 234 chn chc)]⟩
section
variable(h0:aDo dl sk dc (aG x) [Aa,Ab] n200 Ee ([]:Lqb) T202)
include h0
theorem aZm{alc chc Hj:List PV}(h1:Ee=true)(h2:[(aA 1099511627776),(blP Ee),(aG x)].length=1*3∧chn+1≤1000000)(h3:([(1099511627776:Int)]:List Int).length≤1000)(Hk:Ig=(chn+1))(Hl:Hj=(chc++[(aA 1099511627776),(blP Ee),(aG x)]))(Ka:Oe=(if (1099511627776:Int)<mn then 1099511627776 else mn))(Kb:Of=(yS mx ([(1099511627776:Int)]:List Int))):aC Tp 5 (sub (cd Tryz.f91) ai) (rfO (aHw dl sk dc aln alc i Aa Ab Bo chn chc mn mx) 36 10 x) .normal (aPv dl sk dc aln alc i Aa Ab Bo Ig Hj Oe Of):=by
 subst Hk Hl Ka Kb;have k1:=mN [] 5 (oP (dl:=dl) (sk:=sk) (dc:=dc) (on:=x.length) (ol:=(x.map aA)));have k2:=mq c8 13 h0;exact aC.fi (gI bj [13]) [.g 2 ⟨[29],[],[4],[]⟩,.x (PV.rp (aR dl sk dc) 0),.x (.agg [(aA Aa),(aA Ab)]),.x (PV.rp (aR dl sk dc) 0),k1.o,k2.o,bT,.c (pI (yS mx ([(1099511627776:Int)]:List Int))) []] (gc aHu (gc aHv (gt (FC Tp 159 [(pI mx),(.own 15)] [(15,(.row 3 1 [(aA 1099511627776)]))] 16 (pI (yS mx ([(1099511627776:Int)]:List Int))) []) (fv (aQl mx ([(1099511627776:Int)]:List Int) h3)) (gc aHu (gc aHv (gc h2 (gt ([(aA 1099511627776),(blP Ee),(aG x)].length=3) (by first | decide | simp) (gc h1 (gc k2 (gc k1 (gr (PV.rp (aR dl sk dc) 0) (gr (.agg [(aA Aa),(aA Ab)]) (gt (0+2≤[(aA Aa),(aA Ab)].length) (by first | decide | simp) (gr (PV.rp (aR dl sk dc) 0) gn))))))))))))))
theorem aZn{alc chc Hj:List PV}(h1:Ee=false)(h2:[(aA n200),(blP Ee),(aG x)].length=1*3∧chn+1≤1000000)(h3:([n200]:List Int).length≤1000)(Hk:Ig=(chn+1))(Hl:Hj=(chc++[(aA n200),(blP Ee),(aG x)]))(Ka:Oe=(if n200<mn then n200 else mn))(Kb:Of=(yS mx ([n200]:List Int))):aC Tp 5 (sub (cd Tryz.f91) ai) (rfO (aHw dl sk dc aln alc i Aa Ab Bo chn chc mn mx) 36 10 x) .normal (aPv dl sk dc aln alc i Aa Ab Bo Ig Hj Oe Of):=by
 subst Hk Hl Ka Kb;have k1:=mN [] 5 (oP (dl:=dl) (sk:=sk) (dc:=dc) (on:=x.length) (ol:=(x.map aA)));have k2:=mq c8 13 h0;exact aC.fi (gI bj [13]) [.g 2 ⟨[29],[],[4],[]⟩,.x (PV.rp (aR dl sk dc) 0),.x (.agg [(aA Aa),(aA Ab)]),.x (PV.rp (aR dl sk dc) 0),k1.o,k2.o,bF,.c (pI (yS mx ([n200]:List Int))) []] (gc aHu (gc aHv (gt (FC Tp 159 [(pI mx),(.own 15)] [(15,(.row 3 1 [(aA n200)]))] 16 (pI (yS mx ([n200]:List Int))) []) (fv (aQl mx ([n200]:List Int) h3)) (gc aHu (gc aHv (gc h2 (gt ([(aA n200),(blP Ee),(aG x)].length=3) (by first | decide | simp) (gc h1 (gc k2 (gc k1 (gr (PV.rp (aR dl sk dc) 0) (gr (.agg [(aA Aa),(aA Ab)]) (gt (0+2≤[(aA Aa),(aA Ab)].length) (by first | decide | simp) (gr (PV.rp (aR dl sk dc) 0) gn))))))))))))))
end
end
section
abbrev bX:=Int × Bool × List Int
abbrev eK:=List bX × Int × Int
def hpE(h:eK):List PV:=[.sl h.1.length (h.1.map chE).flatten,aA h.2.1,aA h.2.2]
abbrev far:Int:=1099511627776
def chM(dl:Int)(dc:Lqq)(s0 s1:Int)(q:List Int):bX:=(if (totM dl q dc s0 s1).2 then far else (totM dl q dc s0 s1).1,(totM dl q dc s0 s1).2,q)
def mnM(l:List bX):Int:=l.foldl (fun m x=>if x.1<m then x.1 else m) far
def mxM(l:List bX):Int:=l.foldl (fun m x=>if x.1 > m then x.1 else m) 0
def nO(dl:Int)(dc:Lqq)(s0 s1:Int)(o:List Int):eK:=((iK o).map (chM dl dc s0 s1),mnM ((iK o).map (chM dl dc s0 s1)),mxM ((iK o).map (chM dl dc s0 s1)))
def aLe(dc:Lqq)(n:Int):Int:=match ofN dc n with
 | some x=>vJ dc x
 | none=>0
def tU(dl:Int)(dc:Lqq)(bib:Int):List Int:=(aU dl dc).filter fun n => !(aLe dc n != bib)
def bQ(dl:Int)(sk dc:Lqq):List eK:=sk.map fun s=>nO dl dc (s.getD 0 0) (s.getD 1 0) (tU dl dc (s.getD 0 0))
theorem aTu(x:bX):iA (chE x)=true:=by
 obtain ⟨a,b,l⟩:=x;show (nmP (aA a) && (nmP (blP b) && (nmP (aG l) && true)))=true;have h:nmP (aG l)=true:=by
  show iA (l.map aA)=true;exact aBm aA (fun _=>rfl) l
 rw [h];rfl
theorem yB:∀ (a b:List PV),iA (a++b)=(iA a && iA b)
 | [],b=>rfl
 | x::a,b=>by
  show (nmP x && iA (a++b))=((nmP x && iA a) && iA b);rw [yB a b,Bool.and_assoc]
theorem rY{α:Type}{E:α→List PV}(h:∀ a,iA (E a)=true):∀ l:List α,iA (l.map E).flatten=true
 | []=>rfl
 | a::l=>by rw [gT,uZ,yB,h a,rY h l];rfl
theorem bLq(x:eK):iA (hpE x)=true:=by
 obtain ⟨l,a,b⟩:=x;show (iA (l.map chE).flatten && (nmP (aA a) && (nmP (aA b) && true)))=true;rw [rY aTu];rfl
def bTs(dl:Int)(sk dc:Lqq)(al:List eK)(i:Nat)(y0 y1:Int)(o:List Int)(l:List bX):St:=aHw dl sk dc al.length (al.map hpE).flatten i y0 y1 o l.length (l.map chE).flatten (mnM l) (mxM l)
def bXp(dl:Int)(sk dc:Lqq)(al:List eK)(i:Nat)(y0 y1:Int)(o:List Int)(l:List bX):St:=aPv dl sk dc al.length (al.map hpE).flatten i y0 y1 o l.length (l.map chE).flatten (mnM l) (mxM l)
theorem bLr(l:List bX)(c:bX):(l++[c]).length=l.length+1∧((l++[c]).map chE).flatten=(l.map chE).flatten++chE c∧mnM (l++[c])=(if c.1<mnM l then c.1 else mnM l)∧mxM (l++[c])=yS (mxM l) [c.1]:=by
 refine ⟨by simp,by simp,?_,?_⟩
 ·unfold mnM;rw [aDk];rfl
 ·unfold mxM;rw [aDk];rfl
theorem aZi{dl:Int}{sk dc:Lqq}(hd:bS dc){al:List eK}{i:Nat}{y0 y1:Int}(hs : -1≤y1∧y1≤360000){o:List Int}{l:List bX}(hl:l.length+1≤1000000){x:List Int}(hx:x.length≤1000) :
  aC Tp 5 (sub (cd Tryz.f91) ai) (rfO (bTs dl sk dc al i y0 y1 o l) 36 10 x) .normal (bXp dl sk dc al i y0 y1 o (l++[chM dl dc y0 y1 x])):=by
 obtain ⟨T',_,hT⟩:=bGf (sk:=sk) hd (fun n=>aCa hx n) y0 y1 hs (T:=[]) bY.nil
 obtain ⟨e1,e2,e3,e4⟩:=bLr l (chM dl dc y0 y1 x);cases hb:(totM dl x dc y0 y1).2 with
 | true =>
  have ec:chM dl dc y0 y1 x=(far,true,x):=by unfold chM;rw [hb];rfl
  rw [hb] at hT
  rw [ec] at e1 e2 e3 e4 ⊢
  exact aZm hT rfl ⟨rfl,hl⟩ (by simp) e1 e2 e3 e4
 | false =>
  have ec:chM dl dc y0 y1 x=((totM dl x dc y0 y1).1,false,x):=by unfold chM;rw [hb];rfl
  rw [hb] at hT
  rw [ec] at e1 e2 e3 e4 ⊢
  exact aZn hT rfl ⟨rfl,hl⟩ (by simp) e1 e2 e3 e4
theorem aZj{dl:Int}{sk dc:Lqq}(hd:bS dc){al:List eK}{i:Nat}{y0 y1:Int}(hs : -1≤y1∧y1≤360000){o:List Int}(ho:o.length≤8) :
  aC Tp 0 (sub (cd Tryz.f91) ak) (aPu dl sk dc al.length (al.map hpE).flatten i y0 y1 o) .normal (bTs dl sk dc al i y0 y1 o ((iK o).map (chM dl dc y0 y1))):=by
 have hp:(2:Nat) ^ o.length≤256:=fL (Nat.pow_le_pow_right (by omega) ho) (by decide)
 refine (aFl (P:=Tp) (k:=0) (kb:=5) (kk:=3) (g0:=⟨[],[3],[],[(102000,234)]⟩) (g1:=⟨[],[5],[],[]⟩) (aPu dl sk dc al.length (al.map hpE).flatten i y0 y1 o)
  (fun pre=>bTs dl sk dc al i y0 y1 o (pre.map (chM dl dc y0 y1))) (fun pre l=>bXp dl sk dc al i y0 y1 o ((pre++[l]).map (chM dl dc y0 y1))) (fun _ _=>⟨[],[]⟩) _ [] (fun _ _=>false)
  (cc := sub (cd Tryz.f91) [1, 1, 1, 1, 0, 1, 0, 0, 1, 1, 0, 0, 1, 1, 1, 0, 1, 0]) (gi := 35) (p1 := 36) (d := 10) (id := 11) (ty := 31) (pos := "outcome.go:71") (body := sub (cd Tryz.f91) [1, 1, 1, 1, 0, 1, 0, 0, 1, 1, 0, 0, 1, 1, 1, 0, 1, 0, 1]) (by kernel_rfl)
  rfl (fun _=>rfl) (g := .fn 181 [] [.rp [aG o] 0]) (by rfl) (aFj o (by omega)) (fun args w=>rfl) (fun _=>rfl) (fun pre => ?_) (fun _ _=>rfl) (fun _ _=>rfl) rfl rfl (fun _=>by show 4<5;omega) (by kernel_rfl) (fun x=>rfl) (by show 3≤3;omega) rfl (by kernel_rfl) (fun pre l=>by kernel_rfl) (fun _ _ h=>by cases h) (gR:=⟨[],[],[],[]⟩) (fun pre l hpl hx=>⟨fun _ => ?_,fun h=>by cases h⟩)).1 (fun _ _ _=>rfl)
 ·show (iA (al.map hpE).flatten && (iA [] && (iA ((pre.map (chM dl dc y0 y1)).map chE).flatten && true)))=true
  rw [rY bLq,rY aTu];rfl
 ·have:=aZi (dl:=dl) (y0:=y0) (sk:=sk) hd (al:=al) (i:=i) hs (o:=o) (l:=pre.map (chM dl dc y0 y1)) (by rw [A8];omega) hx
  rw [eE];exact this
end
section
theorem bTq{dl:Int}{sk dc:Lqq}(hd:bS dc){bib tm n:Int}(hn:n∈aU dl dc):aPx dl sk dc bib tm n (aLe dc n != bib):=fun base=>by
 unfold aU at hn
 obtain ⟨x,hx,rfl⟩:=dH.1 hn;have hx:=(aBd.1 hx).1;have hr:=eR hd hx;have hs:aLe dc (dN x)=vJ dc x:=by unfold aLe;rw [aUa hd hx]
 rw [hs];obtain ⟨h1,h2⟩:=aQj hd hx;have hk:=vH hd (n:=dN x) (by show _∧_;omega)
 have hab:=kX hd x hx;obtain ⟨a,b,c,d,e,f,rfl⟩:=Az (hd.ud x hx);have hf:inR f:=by
  have:=(gY.1 (hd.rng _ hx));unfold inR;simp [dAb] at this hab ⊢;omega
 exact bTx hk h1 h2 (fun base=>bGd hd hf (.inl hx) hr.2) rfl
theorem bFk(dl:Int)(dc:Lqq)(b:Int):(tU dl dc b).length≤(aU dl dc).length:=aBa _ _
theorem bLp{dl:Int}{sk dc:Lqq}(hd:bS dc)(hu:uni 2 sk)(hl:sk.length≤1000)(hs:∀ s∈sk,-1≤s.getD 1 0∧s.getD 1 0≤360000)(ho:(aU dl dc).length≤8) :
  aF Tp 0 (sub (cd Tryz.f91) c6) (mR dl sk dc 0 [] 0) (.exit 0) (mR dl sk dc (bQ dl sk dc).length ((bQ dl sk dc).map hpE).flatten sk.length):=by
 obtain ⟨acc,hI,hL⟩:=aF.ex (P:=Tp) (k:=0) (b:=sub (cd Tryz.f91) c6) (e := .exit 0) (fun i (al:List eK)=>mR dl sk dc al.length (al.map hpE).flatten i) (fun al=>mR dl sk dc al.length (al.map hpE).flatten sk.length) (fun i al=>al=bQ dl (sk.take i) dc) (by simp) sk.length
  (fun i al hi hal=>by
   obtain ⟨x,hx⟩:∃ x,sk[i]? = some x:=⟨_,Ap hi⟩;have hm:=Bf hx;have hsx:=hs x hm;obtain ⟨y0,y1,rfl⟩:=len2 (hu x hm);have hlen:al.length=i:=by rw [hal];unfold bQ;rw [A8,nI];omega
   refine ⟨al++[nO dl dc y0 y1 (tU dl dc y0)],?_,aZk (Bo:=tU dl dc y0) (by omega) hx hu (by omega) (bTw (by omega) fun n hn=>bTq hd hn) (aZj hd hsx (fL (bFk dl dc y0) ho)) ⟨rfl,by omega⟩ (aM (by omega)) (by simp) (by simp only [eE,gT,List.map_nil,aDi,uZ,List.flatten_nil,List.append_nil];rfl) rfl⟩
   rw [hal];unfold bQ;rw [List.take_add_one,hx];simp)
  (fun al _=>aZl (by omega)) (acc:=[]) (by simp [bQ])
 rw [List.take_length] at hI
 rw [← hI];exact hL
theorem bTr{dl:Int}{sk dc:Lqq}(hd:bS dc)(hu:uni 2 sk)(hl:sk.length≤1000)(hs:∀ s∈sk,-1≤s.getD 1 0∧s.getD 1 0≤360000)(ho:(aU dl dc).length≤8){base:Nat} :
  FV Tp 91 [qY dl sk dc] base (.tup [.own base,.p (aA 0)]) [(base,.row 232 (bQ dl sk dc).length ((bQ dl sk dc).map hpE).flatten)]:=bTt hd (by omega) (bLp hd hu hl hs ho)
end
end KV
end Go.Proofs
section
namespace Go.Proofs
open Go.Shelf
def Tryz.lays189_ren:Go.Shelf.Ren:=⟨fun | 189=>161 | 125=>195 | 257=>209 | 128=>231 | 129=>232 | 294=>255 | 295=>256 | 296=>257 | 297=>258 | 298=>259 | 299=>260 | 216=>261 | 300=>262 | 301=>263 | 328=>284 | 329=>271 | 330=>272 | 331=>285 | 332=>286 | 215=>124 | 343=>294 | n=>n,fun | 28=>31 | 3=>3 | 46=>266 | 0=>0 | 51=>94 | 53=>288 | 4=>4 | 183=>281 | 182=>280 | 131=>179 | 5=>5 | 9=>9 | 218=>307 | 222=>311 | 228=>322 | 229=>236 | n=>n,fun | n=>n⟩
theorem Tryz.lays189:Go.Proofs.Lays.n189 Tryz.prog Tryz.lays189_ren:={
 mixed:=by kernel_rfl
 f125:=func195.trans (congrArg some (by kernel_rfl))
 f128:=func231.trans (congrArg some (by kernel_rfl))
 f129:=func232.trans (congrArg some (by kernel_rfl))
 f189:=func161.trans (congrArg some (by kernel_rfl))
 f215:=func124.trans (congrArg some (by kernel_rfl))
 f216:=func261.trans (congrArg some (by kernel_rfl))
 f257:=func209.trans (congrArg some (by kernel_rfl))
 f294:=func255.trans (congrArg some (by kernel_rfl))
 f295:=func256.trans (congrArg some (by kernel_rfl))
 f296:=func257.trans (congrArg some (by kernel_rfl))
 f297:=func258.trans (congrArg some (by kernel_rfl))
 f298:=func259.trans (congrArg some (by kernel_rfl))
 f299:=func260.trans (congrArg some (by kernel_rfl))
 f300:=func262.trans (congrArg some (by kernel_rfl))
 f301:=func263.trans (congrArg some (by kernel_rfl))
 f328:=func284.trans (congrArg some (by kernel_rfl))
 f329:=func271.trans (congrArg some (by kernel_rfl))
 f330:=func272.trans (congrArg some (by kernel_rfl))
 f331:=func285.trans (congrArg some (by kernel_rfl))
 f332:=func286.trans (congrArg some (by kernel_rfl))
 f343:=func294.trans (congrArg some (by kernel_rfl))
 t0:=Tryz.underlying0
 a0:=Tryz.isAgg0
 z0:=Tryz.sizeOf0
 v0:=Tryz.zeroValue0
 t3:=Tryz.underlying3
 a3:=Tryz.isAgg3
 z3:=Tryz.sizeOf3
 v3:=Tryz.zeroValue3
 t4:=Tryz.underlying4
 a4:=Tryz.isAgg4
 z4:=Tryz.sizeOf4
 v4:=Tryz.zeroValue4
 t5:=Tryz.underlying5
 a5:=Tryz.isAgg5
 z5:=Tryz.sizeOf5
 v5:=Tryz.zeroValue5
 t9:=Tryz.underlying9
 a9:=Tryz.isAgg9
 z9:=Tryz.sizeOf9
 v9:=Tryz.zeroValue9
 t28:=Tryz.underlying31
 a28:=Tryz.isAgg31
 z28:=Tryz.sizeOf31
 v28:=Tryz.zeroValue31
 t46:=Tryz.underlying266
 a46:=Tryz.isAgg266
 z46:=Tryz.sizeOf266
 v46:=Tryz.zeroValue266
 t51:=Tryz.underlying94
 a51:=Tryz.isAgg94
 z51:=Tryz.sizeOf94
 v51:=Tryz.zeroValue94
 t53:=Tryz.underlying288
 a53:=Tryz.isAgg288
 z53:=Tryz.sizeOf288
 v53:=Tryz.zeroValue288
 t131:=Tryz.underlying179
 a131:=Tryz.isAgg179
 z131:=Tryz.sizeOf179
 v131:=Tryz.zeroValue179
 t182:=Tryz.underlying280
 a182:=Tryz.isAgg280
 z182:=Tryz.sizeOf280
 v182:=Tryz.zeroValue280
 t183:=Tryz.underlying281
 a183:=Tryz.isAgg281
 z183:=Tryz.sizeOf281
 v183:=Tryz.zeroValue281
 t218:=Tryz.underlying307
 a218:=Tryz.isAgg307
 z218:=Tryz.sizeOf307
 v218:=Tryz.zeroValue307
 t222:=Tryz.underlying311
 a222:=Tryz.isAgg311
 z222:=Tryz.sizeOf311
 v222:=Tryz.zeroValue311
 t228:=Tryz.underlying322
 a228:=Tryz.isAgg322
 z228:=Tryz.sizeOf322
 v228:=Tryz.zeroValue322
 t229:=Tryz.underlying236
 a229:=Tryz.isAgg236
 z229:=Tryz.sizeOf236
 v229:=Tryz.zeroValue236 }
open Go.Sort Go.RowKit in
theorem Tryz.slices_Sort_int(blk off cap:Nat)(zs:List Int)(w:World)(hH:Holds (Value.int .i64) w blk off zs.toArray)(hblk:blk<w.heap.size)(hsz:zs.length<4611686018427387904) :
  Calls Tryz.prog 161 #[.slice (some ⟨blk,off,none⟩) zs.length cap] w fun e w' =>
   e = .returned (.tuple #[])∧∃ n os,w'=grow (putRow (Value.int .i64) (Sort.ahead w n) blk off (zs.mergeSort fun x y=>decide (x≤y)).toArray) os:=Any.slices_Sort_int Tryz.lays189 blk off cap zs w hH hblk hsz
def Tryz.laysNm220_ren:Go.Shelf.Ren:=⟨fun | 20=>162 | n=>n,fun | 22=>31 | 3=>3 | 4=>4 | 0=>0 | n=>n,fun | n=>n⟩
theorem Tryz.laysNm220:Go.Proofs.Lays2.n20 Tryz.prog Tryz.laysNm220_ren:={
 mixed:=by kernel_rfl
 f20:=func162.trans (congrArg some (by kernel_rfl))
 t0:=Tryz.underlying0
 a0:=Tryz.isAgg0
 z0:=Tryz.sizeOf0
 v0:=Tryz.zeroValue0
 t3:=Tryz.underlying3
 a3:=Tryz.isAgg3
 z3:=Tryz.sizeOf3
 v3:=Tryz.zeroValue3
 t4:=Tryz.underlying4
 a4:=Tryz.isAgg4
 z4:=Tryz.sizeOf4
 v4:=Tryz.zeroValue4
 t22:=Tryz.underlying31
 a22:=Tryz.isAgg31
 z22:=Tryz.sizeOf31
 v22:=Tryz.zeroValue31
 i3:=by kernel_rfl }
open Go.RowKit Go.Lib Go.Sort in
theorem Tryz.slices_Compact_int(blk off cap:Nat)(zs:List Int)(w:World)(hH:Holds (Value.int .i64) w blk off zs.toArray)(hsz:zs.length≤9223372036854775807)(hcap:zs.length≤cap) :
  Calls Tryz.prog 162 #[.slice (some ⟨blk,off,none⟩) zs.length cap] w fun e w'=>e = .returned (.slice (some ⟨blk,off,none⟩) (Lib.compact zs).length cap)∧∃ q,w'=putRow (Value.int .i64) (Sort.ahead w q) blk off (Lib.compact zs++List.replicate (zs.length-(Lib.compact zs).length) 0).toArray:=Any.slices_Compact_int Tryz.laysNm220 blk off cap zs w hH hsz hcap
open Go.RowKit Go.Lib Go.Sort in
theorem Tryz.slices_Compact_int_empty(a:Option Addr)(cap:Nat)(w:World) :
  Calls Tryz.prog 162 #[.slice a 0 cap] w fun e w'=>e = .returned (.slice a 0 cap)∧w'=w:=Any.slices_Compact_int_empty Tryz.laysNm220 a cap w
theorem Tryz.slices_Sort_int_none(p:Option Addr)(cap:Nat)(w:World) :
  Calls Tryz.prog 161 #[.slice p 0 cap] w fun e w'=>e = .returned (.tuple #[])∧w'=w:=Any.slices_Sort_int_none Tryz.lays189 p cap w
end Go.Proofs
end
section
namespace Go.Proofs
open Go.RowKit Go.Lib Go.Sort
namespace KL
def OwnI(w:World)(base:Nat)(v:Value)(l:List Int):Prop:=w.ownsRow base 3 1 v l.length (l.map (Value.int .i64))

def leB:Int→Int→Bool:=fun x y=>decide (x≤y)

theorem bHn(base:Nat)(v:Value)(l:List Int)(w:World)(hv:OwnI w base v l)(hlen:l.length≤1000000) :
  Calls Tryz.prog 161 #[v] w fun e w'=>e = .returned (.tuple #[])∧OwnI w' base v (l.mergeSort leB)∧w.grownBy w' v.ownBlock:=by
 have hown:=hv
 rcases hv.2 with ⟨rfl,h0⟩ | ⟨g,cap,cur,rfl,hb,hg,hn,hm,hs,ht⟩
 ·have:l=[]:=List.eq_nil_of_length_eq_zero h0
  subst this;refine (Tryz.slices_Sort_int_none none 0 w).mono ?_;rintro e w' ⟨rfl,rfl⟩;exact ⟨rfl,by simpa using hown,World.grownBy.refl _ _⟩
 ·have hlt:=lt_of_block hg
  refine (Tryz.slices_Sort_int g 0 cap l w (holds_of_blockI hg (by simpa using ht)) hlt (by omega)).mono ?_
  rintro e w' ⟨rfl,n,os,rfl⟩;refine ⟨rfl,?_,grownBy_sortedI _⟩;have hl:(l.mergeSort leB).length=l.length:=List.length_mergeSort l;unfold OwnI;rw [hl];exact ownsRow_sortedI hl hb hg hn hm hs

end KL
open KL
namespace KV
open Tryz
open Go.Shelf
variable {P:Program} {C:Cx} {M:Mem} {w w':World}
abbrev oS(l:List Int):AO := .row 3 l.length (l.map aA)
theorem bHo{F:Nat→Prop}{cur:Array Value}{l:List Int}(hle:l.length≤cur.size)(h:∀ j (hj:j<(l.map aA).length),bW F w (l.map aA)[j] (cur.getD j undef)):cur.toList.take l.length=l.map (Value.int .i64):=by
 apply List.ext_getElem
 ·simp;omega
 ·intro i h1 h2
  have hi:i<l.length:=by simpa using h2
  have:=h i (by simpa using hi)
  rw [List.getElem_map] at this
  rw [List.getElem_map,List.getElem_take];cases hx:cur.getD i undef with
  | int k z =>
   rw [hx] at this
   cases this;rw [Array.getD_eq_getD_getElem?,Array.getElem?_eq_getElem (by omega)] at hx
   simpa using hx
  | _=>rw [hx] at this;cases this
theorem aMd(F:Nat→Prop){cur:Array Value}{l:List Int}(h:cur.toList.take l.length=l.map (Value.int .i64)):(∀ j (hj:j<(l.map aA).length),bW F w (l.map aA)[j] (cur.getD j undef))∧∀ j,j<(l.map aA).length→(cur.getD j undef).oneCell'=true:=by
 have key:∀ j (hj:j<l.length),cur.getD j undef = .int .i64 l[j]:=fun j hj=>by
  have h1:=congrArg (fun x=>x[j]?) h
  simp only [List.getElem?_take,hj,if_true,List.getElem?_map,List.getElem?_eq_getElem hj,Option.map_some,Array.getElem?_toList] at h1
  rw [Array.getD_eq_getD_getElem?,h1];rfl
 refine ⟨fun j hj => ?_,fun j hj => ?_⟩
 ·have Bp:j<l.length:=by simpa using hj
  rw [List.getElem_map,key j Bp];exact .v _
 ·rw [key j (by simpa using hj)];rfl

theorem Ht:∃ i,Tryz.prog.info? 3=some i∧i.size=1:=rX (show (Tryz.prog.info? 3).map (fun i=>i.size)=some 1 by kernel_rfl)
theorem bHp{id:Nat}{l:List Int}{u:Value}(hM:aO Tryz.prog C M w)(ho:M[id]? = some (some (oS l)))(h:Rep C M w (.own id) u):OwnI w 0 u l:=by
 refine ⟨by simp,?_⟩
 cases h with
 | own _ _ h0 ha hr =>
  rcases hr _ _ _ ho with ⟨rfl,_,hn⟩ | ⟨b,rfl,hb⟩
  ·exact .inl ⟨rfl,hn⟩
  ·rcases hM.row _ _ _ _ ho with ⟨D5,_⟩ | ⟨b',arr,inf,Aj,q1,q2,q3,q4,q5,q6,q7,q8⟩
   ·rw [hb] at D5;cases D5
   ·rw [hb] at Aj;cases Aj
    obtain ⟨i,hi,hs⟩:=Ht;rw [hi] at q2;cases q2
    exact .inr ⟨b,_,arr,rfl,Nat.zero_le _,q1,q5,q6,by rw [q3,hs],by rw [Nat.mul_one];exact bHo (by rw [q3,hs];omega) q7⟩

theorem aFu{l l':List Int}{u u':Value}{d:Bool}(hM:aO Tryz.prog C [some (oS l)] w)(h:Rep C [some (oS l)] w (.own 0) u)(hown:OwnI w' 0 u' l')(hg:w.grownBy w' u.ownBlock)
  (hb:u'.ownBlock=u.ownBlock) (hd:d=false→u'=u∧l'.length=l.length) :
  ∃ C',Fr C [some (oS l)] w C' (if d then [some .dead,some (oS l')] else [some (oS l')]) w'∧aO Tryz.prog C' (if d then [some .dead,some (oS l')] else [some (oS l')]) w'∧Rep C' (if d then [some .dead,some (oS l')] else [some (oS l')]) w' (.own (if d then 1 else 0)) u':=by
 have Hz:∀ (id:Nat) (o:AO),([some (oS l)]:Mem)[id]? = some (some o)→id=0∧o=oS l:=fun id o h=>by
  cases id with
  | zero=>simp at h;exact ⟨rfl,h.symm⟩
  | succ i=>simp at h
 have hblk:∀ b,C.ι 0=some b→u.ownBlock=some b∧∃ cap,u = .slice (some ⟨b,0,none⟩) l.length cap∧cap=C.κ 0:=fun b Nk=>by
  cases h with
  | own _ _ h0 ha hr =>
   rcases hr _ _ _ rfl with ⟨_,hn,_⟩ | ⟨b',rfl,Aj⟩
   ·rw [Nk] at hn;cases hn
   ·rw [Nk] at Aj;cases Aj;exact ⟨rfl,_,rfl,rfl⟩
 have hnb:C.ι 0=none→u = .slice none 0 0:=fun hn=>by
  cases h with
  | own _ _ h0 ha hr =>
   rcases hr _ _ _ rfl with ⟨hu,_,_⟩ | ⟨b',rfl,Aj⟩
   ·exact hu
   ·rw [hn] at Aj;cases Aj
 have hkeep:∀ b,b<w.heap.size→(∀ (id:Nat) (o:AO),([some (oS l)]:Mem)[id]? = some (some o)→o.live=true→C.ι id≠some b)→w'.heap[b]? = w.heap[b]? := fun b Ce hn=>by
  refine hg.block b Ce fun he => ?_
  cases hι:C.ι 0 with
  | none=>rw [hnb hι] at he;cases he
  | some b' =>
   rw [(hblk b' hι).1] at he;cases he
   exact hn 0 _ rfl rfl hι
 have hFz:∀ b,C.F b→w'.heap[b]? = w.heap[b]? := fun b hf=>hkeep b (hM.Fs b hf) fun id o hm hl he=>hM.nF id o b hm hl he hf
 cases d with
 | false =>
  obtain ⟨rfl,hlen⟩:=hd rfl;simp only [Bool.false_eq_true,if_false];have Cd:∀ (id:Nat) (o:AO),([some (oS l')]:Mem)[id]? = some (some o)→id=0∧o=oS l':=fun id o h=>by
   cases id with
   | zero=>simp at h;exact ⟨rfl,h.symm⟩
   | succ i=>simp at h
  have N1:∀ b,C.ι 0=some b→∃ cur,w'.heap[b]? = some (.cells cur 3 (0,0))∧l'.length≤C.κ 0∧C.κ 0≤maxLen∧cur.size=C.κ 0∧cur.toList.take l'.length=l'.map (Value.int .i64):=fun b hι=>by
   obtain ⟨_,cap,hu,hc⟩:=hblk b hι
   rcases hown.2 with ⟨he,_⟩ | ⟨g,Em,cur,hv,_,hh,r1,r2,r3,r4⟩
   ·rw [hu] at he;cases he
   ·rw [hu] at hv
    obtain ⟨e1,_,e3⟩:=Value.slice.inj hv;cases e1;subst e3;subst hc;exact ⟨cur,hh,r1,r2,by omega,by simpa using r4⟩
  refine ⟨C,⟨hg.os,hg.tape,hg.output,hg.size,hkeep,fun id o hm => ?_,fun id o hm ty n cs hx => ?_,fun id o hm o' hx hl => ?_,fun id o b hm hl hb => ?_,fun _ h=>h,fun _ h => .inl h⟩,
   ⟨fun id ty n cs hm => ?_,fun id ty cs hm => ?_,fun id es cl hm => ?_,fun id Ep o o' b h1 _ h2 _ _ _ => ?_,fun id o b hm hl hb => ?_,fun b hb=>Nat.lt_of_lt_of_le (hM.Fs b hb) hg.size,fun id o b hm hl hb => ?_⟩,?_⟩
  ·obtain ⟨rfl,rfl⟩:=Hz id o hm
   exact ⟨⟨_,rfl⟩,rfl,rfl⟩
  ·obtain ⟨rfl,rfl⟩:=Hz id o hm
   obtain ⟨_,he⟩:=Cd _ _ hx;cases he;exact ⟨l.map aA,by rw [hlen];rfl⟩
  ·obtain ⟨rfl,rfl⟩:=Hz id o hm
   rfl
  ·obtain ⟨rfl,rfl⟩:=Cd id o hm
   exact .inr ⟨0,_,rfl,rfl,hb⟩
  ·obtain ⟨rfl,he⟩:=Cd id _ hm
   cases he;cases hι:C.ι 0 with
   | none =>
    have:=hnb hι
    rcases hown.2 with ⟨_,h0⟩ | ⟨g,Em,cur,hv,_⟩
    ·have:l'=[]:=List.eq_nil_of_length_eq_zero h0
     subst this;exact .inl ⟨rfl,rfl,rfl⟩
    ·rw [this] at hv;cases hv
   | some b =>
    obtain ⟨cur,q1,q2,q3,q4,q5⟩:=N1 b hι;obtain ⟨i,hi,hs⟩:=Ht;obtain ⟨r1,r2⟩:=aMd (w:=w') C.F q5;exact .inr ⟨b,cur,i,rfl,q1,hi,by rw [hs,q4,Nat.mul_one],by simp [hs],q2,q3,r1,r2⟩
  ·obtain ⟨_,he⟩:=Cd id _ hm;cases he
  ·obtain ⟨_,he⟩:=Cd id _ hm;cases he
  ·obtain ⟨rfl,_⟩:=Cd id _ h1
   obtain ⟨rfl,_⟩:=Cd Ep _ h2;rfl
  ·obtain ⟨rfl,_⟩:=Cd id _ hm
   exact hM.nF 0 _ b rfl rfl hb
  ·obtain ⟨rfl,_⟩:=Cd id _ hm
   exact Nat.lt_of_lt_of_le (hM.lt 0 _ b rfl rfl hb) hg.size
  ·cases h with
   | own _ _ h0 ha hr =>
    refine .own 0 _ h0 ⟨_,rfl⟩ fun ty n cs hx => ?_
    obtain ⟨_,he⟩:=Cd 0 _ hx;cases he
    rcases hr _ _ _ rfl with ⟨q1,q2,q3⟩ | ⟨b,q1,q2⟩
    ·exact .inl ⟨q1,q2,by omega⟩
    ·exact .inr ⟨b,by rw [q1,hlen],q2⟩
 | true =>
  simp only [if_true]
  let Em:Nat:=match u' with | .slice _ _ c=>c | _=>0
  have Cd:∀ (id:Nat) (o:AO),([some .dead,some (oS l')]:Mem)[id]? = some (some o)→(id=0∧o = .dead)∨(id=1∧o=oS l'):=fun id o h=>by
   match id,h with
   | 0,h=>simp at h;exact .inl ⟨rfl,h.symm⟩
   | 1,h=>simp at h;exact .inr ⟨rfl,h.symm⟩
   | i+2,h=>simp at h
  refine ⟨{ ι:=fun i=>if i=1 then u'.ownBlock else C.ι i,κ:=fun i=>if i=1 then Em else C.κ i,F:=C.F },⟨hg.os,hg.tape,hg.output,hg.size,hkeep,fun id o hm => ?_,fun id o hm ty n cs hx => ?_,fun id o hm o' hx hl => ?_,fun id o b hm hl hbb => ?_,fun _ h=>h,fun _ h => .inl h⟩,
   ⟨fun id ty n cs hm => ?_,fun id ty cs hm => ?_,fun id es cl hm => ?_,fun id Ep o o' b h1 l1 h2 l2 _ _ => ?_,fun id o b hm hl hbb => ?_,fun b hb=>Nat.lt_of_lt_of_le (hM.Fs b hb) hg.size,fun id o b hm hl hbb => ?_⟩,?_⟩
  ·obtain ⟨rfl,rfl⟩:=Hz id o hm
   exact ⟨⟨_,rfl⟩,rfl,rfl⟩
  ·obtain ⟨rfl,rfl⟩:=Hz id o hm
   rcases Cd _ _ hx with ⟨_,he⟩ | ⟨he,_⟩
   ·cases he
   ·cases he
  ·obtain ⟨rfl,rfl⟩:=Hz id o hm
   rfl
  ·rcases Cd id o hm with ⟨rfl,rfl⟩ | ⟨rfl,rfl⟩
   ·cases hl
   ·simp only [if_true] at hbb
    rw [hb] at hbb
    cases hι:C.ι 0 with
    | none=>rw [hnb hι] at hbb;cases hbb
    | some b' =>
     rw [(hblk b' hι).1] at hbb;cases hbb
     exact .inr ⟨0,_,rfl,rfl,hι⟩
  ·rcases Cd id _ hm with ⟨_,he⟩ | ⟨rfl,he⟩
   ·cases he
   ·cases he
    simp only [if_true]
    rcases hown.2 with ⟨rfl,h0⟩ | ⟨g,cp,cur,rfl,_,hh,r1,r2,r3,r4⟩
    ·have:l'=[]:=List.eq_nil_of_length_eq_zero h0
     subst this;exact .inl ⟨rfl,rfl,rfl⟩
    ·obtain ⟨i,hi,hs⟩:=Ht
     obtain ⟨q1,q2⟩:=aMd (w:=w') C.F (by simpa using r4)
     exact .inr ⟨g,cur,i,rfl,hh,hi,by rw [hs];exact r3,by simp [hs],r1,r2,q1,q2⟩
  ·rcases Cd id _ hm with ⟨_,he⟩ | ⟨_,he⟩ <;> cases he
  ·rcases Cd id _ hm with ⟨_,he⟩ | ⟨_,he⟩ <;> cases he
  ·rcases Cd id _ h1 with ⟨_,rfl⟩ | ⟨rfl,_⟩
   ·cases l1
   ·rcases Cd Ep _ h2 with ⟨_,rfl⟩ | ⟨rfl,_⟩
    ·cases l2
    ·rfl
  ·rcases Cd id _ hm with ⟨_,rfl⟩ | ⟨rfl,_⟩
   ·cases hl
   ·simp only [if_true] at hbb
    rw [hb] at hbb
    cases hι:C.ι 0 with
    | none=>rw [hnb hι] at hbb;cases hbb
    | some b' =>
     rw [(hblk b' hι).1] at hbb;cases hbb
     exact hM.nF 0 _ _ rfl rfl hι
  ·rcases Cd id _ hm with ⟨_,rfl⟩ | ⟨rfl,_⟩
   ·cases hl
   ·simp only [if_true] at hbb
    rw [hb] at hbb
    cases hι:C.ι 0 with
    | none=>rw [hnb hι] at hbb;cases hbb
    | some b' =>
     rw [(hblk b' hι).1] at hbb;cases hbb
     exact Nat.lt_of_lt_of_le (hM.lt 0 _ _ rfl rfl hι) hg.size
  ·have h0:u'.oneCell'=true:=by
    rcases hown.2 with ⟨rfl,_⟩ | ⟨g,cp,cur,rfl,_⟩ <;> rfl
   refine .own 1 _ h0 ⟨_,rfl⟩ fun ty n cs hx => ?_
   rcases Cd _ _ hx with ⟨he,_⟩ | ⟨_,he⟩
   ·cases he
   ·cases he
    simp only [if_true]
    rcases hown.2 with ⟨rfl,h9⟩ | ⟨g,cp,cur,rfl,_⟩
    ·exact .inl ⟨rfl,rfl,h9⟩
    ·exact .inr ⟨g,rfl,rfl⟩

theorem bHq(l:List Int)(hl:l.length≤1000000):FMM Tryz.prog 161 [.own 0] [some (oS l)] (.tup []) [some (oS (l.mergeSort leB))]:=fun C w us hus hM n=>by
 obtain ⟨u,rfl,hu⟩:=vE hus;refine (callsIn_wide.2 (bHn 0 u l w (bHp hM rfl hu) hl)).mono ?_;rintro e w' ⟨rfl,h1,h2⟩;obtain ⟨C',f,m,_⟩:=aFu (d:=false) hM hu h1 h2 rfl (fun _=>⟨rfl,List.length_mergeSort l⟩)
 exact ⟨_,rfl,C',f,m,.tup [] #[] rfl (fun i h=>by simp at h)⟩
theorem aCm(l:List Int):(Lib.compact l).length≤l.length:=by
 unfold Lib.compact Lib.compactUpTo;rw [List.length_map];exact Nat.le_trans (List.length_filter_le _ _) (by simp)
theorem aMe(base:Nat)(v:Value)(l:List Int)(w:World)(hv:KL.OwnI w base v l)(hlen:l.length≤1000000) :
  Calls Tryz.prog 162 #[v] w fun e w'=>∃ p' n' Em,e = .returned (.slice p' n' Em)∧n'=(Lib.compact l).length∧KL.OwnI w' base (.slice p' n' Em) (Lib.compact l)∧w.grownBy w' v.ownBlock∧((Value.slice p' n' Em).ownBlock=v.ownBlock):=by
 have hown:=hv
 rcases hv.2 with ⟨rfl,h0⟩ | ⟨b,cap,cur,rfl,hb,hg,hn,hm,hs,ht⟩
 ·have:l=[]:=List.eq_nil_of_length_eq_zero h0
  subst this;refine (Tryz.slices_Compact_int_empty none 0 w).mono ?_;rintro e w' ⟨rfl,rfl⟩;exact ⟨_,_,_,rfl,rfl,hown,World.grownBy.refl _ _,rfl⟩
 ·refine (Tryz.slices_Compact_int b 0 cap l w (holds_of_blockI hg (by simpa using ht)) (by omega) (by simpa using hn)).mono ?_
  rintro e w' ⟨rfl,q,rfl⟩;have hfl:=aCm l;refine ⟨_,_,_,rfl,rfl,?_,?_,rfl⟩
  ·have:=ownsRow_putRow (enc:=Value.int .i64) (q:=q) (k:=(Lib.compact l).length) (ys:=Lib.compact l++List.replicate (l.length-(Lib.compact l).length) 0) hown (by simp;omega) hfl
   unfold KL.OwnI;simpa using this
  ·exact grownBy_sortedI (os := #[]) (n:=q) (g:=b) (w:=w) ((Lib.compact l++List.replicate (l.length-(Lib.compact l).length) 0).toArray)
theorem aMf(l:List Int)(hl:l.length≤1000000):FMM Tryz.prog 162 [.own 0] [some (.row 3 l.length (l.map aA))] (.own 1) [some .dead,some (.row 3 (Lib.compact l).length ((Lib.compact l).map aA))]:=fun C w us hus hM n=>by
 obtain ⟨u,rfl,hu⟩:=vE hus;refine (callsIn_wide.2 (aMe 0 u l w (bHp hM rfl hu) hl)).mono ?_;rintro e w' ⟨p',n',Em,rfl,h0,h1,h2,h3⟩;obtain ⟨C',f,m,r⟩:=aFu (d:=true) hM hu h1 h2 h3 (fun h=>by cases h)
 exact ⟨_,rfl,C',f,m,r⟩
end KV
end Go.Proofs
end
namespace Go.Proofs
namespace KV
open Tryz
section
variable {ou inn Bb:Bool}{t A7 Bw Bz:Int}{o o' De:List Int}{i n s i' few base Ie many F7:Nat}

noncomputable abbrev qT:Code:=sub (cd Tryz.f160) [1,1,0,1,0,0]
noncomputable abbrev aBv:Code:=sub (cd Tryz.f92) [1,0,1,0,0]
noncomputable abbrev aBw:Code:=sub (cd Tryz.f92) [1,0,1,0,0,1,1,0,0,1,1,1,1,1,0,0]
theorem aHr:0≤(0:Int)∧(0:Int)<2:=by first | decide | simp
theorem aHs:0≤(1:Int)∧(1:Int)<2:=by first | decide | simp
def gL(al:List eK)(s:Nat)(t:Int)(few many i:Nat):St:=⟨fr 39 [(1,(pI (s:Int))),(2,(pI t)),(6,(pI 0)),(7,(pI 0)),(8,(pI (few:Int))),(9,(pI (many:Int))),(12,(.p (.sl al.length ((al.map hpE).flatten)))),(13,(pI (al.length:Int))),(14,(pI (i:Int)))],[]⟩
theorem bTm{al:List eK}{Jc Hh Bn:Nat}(hl0:aF Tp 0 qT (gL al s t 0 0 0) (.exit 0) (gL al s t Jc Hh Bn)):FV Tp 160 [(.p (.sl al.length ((al.map hpE).flatten))),(pI (s:Int)),(pI t)] base (.tup [(pI (Jc:Int)),(pI (Hh:Int))]) []:=FV.fi func160 [hl0.k 8 (gZ bq)] (gc hl0.code gn)
theorem aYx{al:List eK}{Ca:List bX}(h0:(i:Int)<(al.length:Int))(h1:al[i]? = some (Ca,Bw,Bz))(h2:(i:Int)=(s:Int))(h3:da i)(Ai:i'=(i+1)):aC Tp 0 qT (gL al s t few many i) .normal (gL al s t few many i'):=by
 subst Ai;exact aC.fi (gZ bq) [bT,.x (.agg [(.sl Ca.length ((Ca.map chE).flatten)),(aA Bw),(aA Bz)]),bT] (gc h3 (gc (eP h2) (gc (jW (E:=hpE) (i:=i) (k:=3) (fun _=>rfl) h1 rfl) (gc (qO (E:=hpE) (i:=i) (k:=3) (fun _=>rfl) h1) (gc (lD (E:=hpE) (k:=3) (i:=(i:Int)) (fun _=>rfl) (by decide) (hZ _) h1) (g0 h0))))))
section
variable{al:List eK}{Ca:List bX}(h0:(i:Int)<(al.length:Int))(h1:al[i]? = some (Ca,Bw,Bz))(h2:(i:Int)≠(s:Int))
include h0 h1 h2
theorem aYy(h3:Bz<t)(h4:da few)(h5:Bw<t)(h6:da many)(h7:da i)(Hi:Ie=(few+1))(Fv:F7=(many+1))(Ai:i'=(i+1)):aC Tp 0 qT (gL al s t few many i) .normal (gL al s t Ie F7 i'):=by
 subst Hi Fv Ai;exact aC.fi (gZ bq) [bT,.x (.agg [(.sl Ca.length ((Ca.map chE).flatten)),(aA Bw),(aA Bz)]),bF,bT,bT] (gc h7 (gc h6 (gc (eV h5) (gc aHr (gc h4 (gc (eV h3) (gc aHs (gc (bL h2) (gc (jW (E:=hpE) (i:=i) (k:=3) (fun _=>rfl) h1 rfl) (gc (qO (E:=hpE) (i:=i) (k:=3) (fun _=>rfl) h1) (gc (lD (E:=hpE) (k:=3) (i:=(i:Int)) (fun _=>rfl) (by decide) (hZ _) h1) (g0 h0))))))))))))
theorem aYz(h3:Bz<t)(h4:da few)(h5:t≤Bw)(h6:da i)(Hi:Ie=(few+1))(Ai:i'=(i+1)):aC Tp 0 qT (gL al s t few many i) .normal (gL al s t Ie many i'):=by
 subst Hi Ai;exact aC.fi (gZ bq) [bT,.x (.agg [(.sl Ca.length ((Ca.map chE).flatten)),(aA Bw),(aA Bz)]),bF,bT,bF] (gc h6 (gc (bA h5) (gc aHr (gc h4 (gc (eV h3) (gc aHs (gc (bL h2) (gc (jW (E:=hpE) (i:=i) (k:=3) (fun _=>rfl) h1 rfl) (gc (qO (E:=hpE) (i:=i) (k:=3) (fun _=>rfl) h1) (gc (lD (E:=hpE) (k:=3) (i:=(i:Int)) (fun _=>rfl) (by decide) (hZ _) h1) (g0 h0)))))))))))
theorem aZa(h3:t≤Bz)(h4:Bw<t)(h5:da many)(h6:da i)(Fv:F7=(many+1))(Ai:i'=(i+1)):aC Tp 0 qT (gL al s t few many i) .normal (gL al s t few F7 i'):=by
 subst Fv Ai;exact aC.fi (gZ bq) [bT,.x (.agg [(.sl Ca.length ((Ca.map chE).flatten)),(aA Bw),(aA Bz)]),bF,bF,bT] (gc h6 (gc h5 (gc (eV h4) (gc aHr (gc (bA h3) (gc aHs (gc (bL h2) (gc (jW (E:=hpE) (i:=i) (k:=3) (fun _=>rfl) h1 rfl) (gc (qO (E:=hpE) (i:=i) (k:=3) (fun _=>rfl) h1) (gc (lD (E:=hpE) (k:=3) (i:=(i:Int)) (fun _=>rfl) (by decide) (hZ _) h1) (g0 h0)))))))))))
theorem aZb(h3:t≤Bz)(h4:t≤Bw)(h5:da i)(Ai:i'=(i+1)):aC Tp 0 qT (gL al s t few many i) .normal (gL al s t few many i'):=by
 subst Ai;exact aC.fi (gZ bq) [bT,.x (.agg [(.sl Ca.length ((Ca.map chE).flatten)),(aA Bw),(aA Bz)]),bF,bF,bF] (gc h5 (gc (bA h4) (gc aHr (gc (bA h3) (gc aHs (gc (bL h2) (gc (jW (E:=hpE) (i:=i) (k:=3) (fun _=>rfl) h1 rfl) (gc (qO (E:=hpE) (i:=i) (k:=3) (fun _=>rfl) h1) (gc (lD (E:=hpE) (k:=3) (i:=(i:Int)) (fun _=>rfl) (by decide) (hZ _) h1) (g0 h0))))))))))
end
theorem aZc{al:List eK}(h0:(al.length:Int)≤(i:Int)):aC Tp 0 qT (gL al s t few many i) (.exit 0) (gL al s t few many i):=aC.fi (gZ bq) [bF] (gc (bA h0) gn)
def gV(al:List eK)(s:Nat)(t:Int):Nat→Nat × Nat
 | 0=>(0,0)
 | i+1=>match al[i]? with
  | some h=>if i=s then gV al s t i else ((if h.2.2<t then (gV al s t i).1+1 else (gV al s t i).1),(if h.2.1<t then (gV al s t i).2+1 else (gV al s t i).2))
  | none=>gV al s t i
abbrev cH(al:List eK)(s:Nat)(t:Int):Nat × Nat:=gV al s t al.length
theorem nN(al:List eK)(s:Nat)(t:Int):∀ i,(gV al s t i).1≤i∧(gV al s t i).2≤i
 | 0=>⟨cP _,cP _⟩
 | i+1=>by
  have:=nN al s t i;unfold gV
  split
  ·split
   ·omega
   ·dsimp only
    split <;> split <;> omega
  ·omega
theorem bTn(al:List eK)(s:Nat)(t:Int)(hl:al.length≤1000){base:Nat}:FV Tp 160 [.p (.sl al.length (al.map hpE).flatten),.p (aA s),.p (aA t)] base (.tup [.p (aA ((cH al s t).1:Nat)),.p (aA ((cH al s t).2:Nat))]) []:=by
 obtain ⟨a,hI,hL⟩:=aF.ex (P:=Tp) (k:=0) (b:=qT) (e := .exit 0) (fun i (a:Nat × Nat)=>gL al s t a.1 a.2 i) (fun a=>gL al s t a.1 a.2 al.length) (fun i a=>a=gV al s t i) (by simp) al.length
  (fun i a hi ha=>by
   obtain ⟨⟨c,mn,mx⟩,hx⟩:∃ x,al[i]? = some x:=⟨_,Ap hi⟩;have hle:=nN al s t i;refine ⟨_,rfl,?_⟩;subst ha;have e:gV al s t (i+1)=if i=s then gV al s t i else ((if mx<t then (gV al s t i).1+1 else (gV al s t i).1),(if mn<t then (gV al s t i).2+1 else (gV al s t i).2)):=by
    conv=>lhs;unfold gV
    rw [hx]
   rw [e]
   by_cases his:i=s
   ·rw [if_pos his];exact aYx (by omega) hx (by omega) (aM (by omega)) rfl
   ·rw [if_neg his]
    by_cases h1:mx<t <;> by_cases h2:mn<t
    ·rw [if_pos h1,if_pos h2];exact aYy (by omega) hx (by omega) h1 (aM (by omega)) h2 (aM (by omega)) (aM (by omega)) rfl rfl rfl
    ·rw [if_pos h1,if_neg h2];exact aYz (by omega) hx (by omega) h1 (aM (by omega)) (by omega) (aM (by omega)) rfl rfl
    ·rw [if_neg h1,if_pos h2];exact aZa (by omega) hx (by omega) (by omega) h2 (aM (by omega)) (aM (by omega)) rfl rfl
    ·rw [if_neg h1,if_neg h2];exact aZb (by omega) hx (by omega) (by omega) (by omega) (aM (by omega)) rfl)
  (fun a _=>aZc (by omega)) (acc:=(0,0)) rfl
 subst hI;exact bTm hL
def mP(al:List eK)(s:Nat)(c0:List bX)(on:Nat)(oc:List PV)(ou inn:Bool)(i:Nat):St:=⟨fr 51 [(0,(.p (.sl al.length ((al.map hpE).flatten)))),(1,(pI (s:Int))),(4,(.own 0)),(5,(pB ou)),(6,(pB inn)),(16,(.p (.sl c0.length ((c0.map chE).flatten)))),(17,(pI (c0.length:Int))),(18,(pI (i:Int)))],[some (.row 3 on oc)]⟩
theorem bTo{al:List eK}{c0:List bX}{Ts Tt:Int}{J9:List Int}{Mx Jd:Bool}{Tu:Nat}(h0:al[s]? = some (c0,Ts,Tt))(hl1:aF Tp 0 aBv (mP al s c0 0 [] false false 0) (.exit 0) (mP al s c0 J9.length (J9.map aA) Mx Jd Tu))(h2:J9.length≤1000000)(h3:(J9.mergeSort KL.leB).length≤1000000):FV Tp 92 [(.p (.sl al.length ((al.map hpE).flatten))),(pI (s:Int))] base (.tup [(.p (aG (Lib.compact (J9.mergeSort KL.leB)))),(pB Mx),(pB Jd)]) []:=have k1:=mq [0] 1 (bHq J9 h2);have k2:=mq [0] 1 (aMf (J9.mergeSort KL.leB) h3);FV.frz (FMM.fi 0 ⟨[],[],[1],[]⟩ func92 [.x (.sl c0.length ((c0.map chE).flatten)),hl1.k 1 (gN br [0] [(4,3),(5,0),(6,0)]),k1.o,k2.o] (gc k2 (gc k1 (gc hl1.code (gt (((al.map hpE).flatten)[(s*3)]? = some (.sl c0.length ((c0.map chE).flatten))) (wO (E:=hpE) (i:=s) (f:=0) (k:=3) (fun _=>rfl) h0 rfl) (gc (lD (E:=hpE) (k:=3) (i:=(s:Int)) (fun _=>rfl) (by decide) (hZ _) h0) gn)))))) (by kernel_rfl)
def mQ(al:List eK)(s:Nat)(c0:List bX)(ou:Bool)(i:Nat)(A7:Int)(Bb:Bool)(De:List Int)(on:Nat)(oc:List PV)(n:Nat):St:=⟨fr 51 [(0,(.p (.sl al.length ((al.map hpE).flatten)))),(1,(pI (s:Int))),(4,(.own 0)),(5,(pB ou)),(6,(.kb true)),(8,(.ptr 1 0)),(9,(pI (((cH al s A7).1:Nat):Int))),(10,(pI (((cH al s A7).2:Nat):Int))),(11,(pI (n:Int))),(16,(.p (.sl c0.length ((c0.map chE).flatten)))),(17,(pI (c0.length:Int))),(18,(pI (i:Int))),(19,(pB (decide ((i:Int)<(c0.length:Int))))),(20,(.rp ((c0.map chE).flatten) (i*3))),(21,(.p (.agg [(aA A7),(blP Bb),(aG De)]))),(22,(.ptr 1 1)),(23,(pB Bb)),(24,(.tup [(pI (((cH al s A7).1:Nat):Int)),(pI (((cH al s A7).2:Nat):Int))])),(25,(.p (.sl al.length ((al.map hpE).flatten)))),(26,(pI (s:Int))),(27,(.ptr 1 0)),(28,(pI A7)),(29,(.tup [(pI (((cH al s A7).1:Nat):Int)),(pI (((cH al s A7).2:Nat):Int))])),(30,(pI (((cH al s A7).1:Nat):Int))),(31,(pI (((cH al s A7).2:Nat):Int))),(32,(pI (((cH al s A7).1:Nat):Int))),(33,(pI ((((cH al s A7).1+1):Nat):Int)))],[some (.row 3 on oc),some (.box 234 [(pI A7),(pB Bb),(.p (aG De))])]⟩
section
variable{c0:List bX}(h0:(i:Int)<(c0.length:Int))(h1:c0[i]? = some (A7,Bb,De))
include h0 h1
theorem aZd{al:List eK}(h2:Bb=true)(h3:da i)(Ai:i'=(i+1)):aC Tp 0 aBv (mP al s c0 o.length (o.map aA) ou inn i) .normal (mP al s c0 o.length (o.map aA) true inn i'):=by
 subst Ai;exact aC.fi (gN br [0] [(5,0)]) [bT,.x (.agg [(aA A7),(blP Bb),(aG De)]),bT] (gc h3 (gc h2 (gc (jW (E:=chE) (i:=i) (k:=3) (fun _=>rfl) h1 rfl) (gc (qO (E:=chE) (i:=i) (k:=3) (fun _=>rfl) h1) (gc (lD (E:=chE) (k:=3) (i:=(i:Int)) (fun _=>rfl) (by decide) (hZ _) h1) (g0 h0))))))
theorem aZe{al:List eK}{F8:List Int}{My:Nat}(h2:Bb=false)(h3:al.length≤1000)(h4:inR ((((cH al s A7).1+1):Nat):Int))(F9:aF Tp 0 aBw (mQ al s c0 ou i A7 Bb De o.length (o.map aA) ((cH al s A7).1+1)) (.exit 2) (mQ al s c0 ou i A7 Bb De F8.length (F8.map aA) My))(h6:da i)(Cs:o'.length=F8.length)(Ct:o'.map aA=(F8.map aA))(Ai:i'=(i+1)):aC Tp 0 aBv (mP al s c0 o.length (o.map aA) ou inn i) .normal (mP al s c0 o'.length (o'.map aA) ou true i'):=by
 subst Ai;have k1:=fk 2 (bTn al s A7 h3) rfl;rw [Cs,Ct];exact aC.fi (gN br [0] [(6,0)]) [bT,.x (.agg [(aA A7),(blP Bb),(aG De)]),bF,k1.o,F9.k 3 (gI b9 [0,1])] (gc h6 (gc F9.code (gc h4 (gc k1 (gc h2 (gc (jW (E:=chE) (i:=i) (k:=3) (fun _=>rfl) h1 rfl) (gc (qO (E:=chE) (i:=i) (k:=3) (fun _=>rfl) h1) (gc (lD (E:=chE) (k:=3) (i:=(i:Int)) (fun _=>rfl) (by decide) (hZ _) h1) (g0 h0)))))))))
end
theorem aZf{al:List eK}{c0:List bX}(h0:(c0.length:Int)≤(i:Int)):aC Tp 0 aBv (mP al s c0 o.length (o.map aA) ou inn i) (.exit 0) (mP al s c0 o.length (o.map aA) ou inn i):=aC.fi (gI br [0]) [bF] (gc (bA h0) gn)
section
variable{al:List eK}(h0:inR ((((cH al s A7).2+1):Nat):Int))
include h0
theorem aZg{c0:List bX}{n':Nat}(h1:(n:Int)≤((((cH al s A7).2+1):Nat):Int))(h2:[(aA (n:Int))].length=1*1∧o.length+1≤1000000)(h3:da n)(Cs:o'.length=(o.length+1))(Ct:o'.map aA=((o.map aA)++[(aA (n:Int))]))(Tv:n'=(n+1)):aC Tp 0 aBw (mQ al s c0 ou i A7 Bb De o.length (o.map aA) n) .normal (mQ al s c0 ou i A7 Bb De o'.length (o'.map aA) n'):=by
 subst Tv;rw [Cs,Ct];exact aC.fi (gI b9 [3,1]) [bT] (gc h3 (gc h2 (gc (aWq h1) (gc h0 gn))))
theorem aZh{c0:List bX}(h1:((((cH al s A7).2+1):Nat):Int)<(n:Int)):aC Tp 0 aBw (mQ al s c0 ou i A7 Bb De o.length (o.map aA) n) (.exit 2) (mQ al s c0 ou i A7 Bb De o.length (o.map aA) n):=aC.fi (gI b9 [0,1]) [bF] (gc (pZ h1) (gc h0 gn))
end
def aLd(few many:Nat):List Int:=(List.range (many+1-few)).map fun j=>((few+1+j:Nat):Int)
def chL(al:List eK)(s:Nat)(c:bX):List Int:=if c.2.1 then [] else aLd (cH al s c.1).1 (cH al s c.1).2
def oM(al:List eK)(s:Nat)(c:List bX):List Int:=Lib.compact ((c.flatMap (chL al s)).mergeSort KL.leB)
theorem bFj{a b:Nat}(h:b≤1000):(aLd a b).length≤1001:=by unfold aLd;simp;omega
theorem bLo(al:List eK)(hal:al.length≤1000)(s:Nat)(c:bX):(chL al s c).length≤1001:=by
 unfold chL
 split
 ·simp
 ·exact bFj (by have:(cH al s c.1).2≤al.length:=(nN al s c.1 al.length).2;omega)
theorem aHt{al:List eK}(hal:al.length≤1000)(s:Nat):∀ c:List bX,(c.flatMap (chL al s)).length≤c.length*1001
 | []=>by simp
 | x::c=>by
  rw [List.flatMap_cons,fK,pY];have:=bLo al hal s x;have:=aHt hal s c;omega
theorem bTp{al:List eK}(hal:al.length≤1000)(s:Nat)(c0:List bX)(ou:Bool)(i:Nat)(t:Int)(b:Bool)(q o:List Int)(ho:o.length≤900000) :
  ∃ n',aF Tp 0 aBw (mQ al s c0 ou i t b q o.length (o.map aA) ((cH al s t).1+1)) (.exit 2) (mQ al s c0 ou i t b q (o++aLd (cH al s t).1 (cH al s t).2).length ((o++aLd (cH al s t).1 (cH al s t).2).map aA) n'):=by
 have h1:(cH al s t).1≤al.length:=(nN al s t al.length).1;have h2:(cH al s t).2≤al.length:=(nN al s t al.length).2;obtain ⟨x,hI,hL⟩:=aF.ex (P:=Tp) (k:=0) (b:=aBw) (e := .exit 2) (fun j (x:List Int)=>mQ al s c0 ou i t b q x.length (x.map aA) ((cH al s t).1+1+j)) (fun x=>mQ al s c0 ou i t b q x.length (x.map aA) ((cH al s t).1+1+((cH al s t).2+1-(cH al s t).1)))
  (fun j x=>x=o++(List.range j).map fun j=>(((cH al s t).1+1+j:Nat):Int)) (by simp) ((cH al s t).2+1-(cH al s t).1)
  (fun j x hj hx=>by
   have hlen:x.length=o.length+j:=by rw [hx];simp
   refine ⟨x++[(((cH al s t).1+1+j:Nat):Int)],?_,aZg (aM (by omega)) (by omega) ⟨rfl,by omega⟩ (aM (by omega)) (by simp) (by simp) rfl⟩
   rw [hx,List.range_succ];simp)
  (fun x _=>aZh (aM (by omega)) (by omega)) (acc:=o) (by simp)
 rw [show o++aLd (cH al s t).1 (cH al s t).2=x from hI.symm]
 exact ⟨_,hL⟩
theorem aPt{al:List eK}(hal:al.length≤1000){s:Nat}{c:List bX}{mn mx:Int}(hx:al[s]? = some (c,mn,mx))(hc:c.length≤256){base:Nat} :
  FV Tp 92 [.p (.sl al.length (al.map hpE).flatten),.p (aA s)] base (.tup [.p (aG (oM al s c)),.p (blP (c.any fun x=>x.2.1)),.p (blP (c.any fun x => !x.2.1))]) []:=by
 obtain ⟨a,⟨hI,hJ,hK⟩,hL⟩:=aF.ex (P:=Tp) (k:=0) (b:=aBv) (e := .exit 0) (fun i (a:List Int × Bool × Bool)=>mP al s c a.1.length (a.1.map aA) a.2.1 a.2.2 i) (fun a=>mP al s c a.1.length (a.1.map aA) a.2.1 a.2.2 c.length)
  (fun i a=>a.1=(c.take i).flatMap (chL al s)∧a.2.1=((c.take i).any fun x=>x.2.1)∧a.2.2=((c.take i).any fun x => !x.2.1)) (by simp) c.length
  (fun i a hi ha=>by
   obtain ⟨Kw,Tw,Tx⟩:=ha;obtain ⟨⟨t,b,q⟩,hx⟩:∃ x,c[i]? = some x:=⟨_,Ap hi⟩;have hlen:a.1.length≤256*1001:=by
    rw [Kw];have:=aHt hal s (c.take i);rw [nI] at this
    have:min i c.length≤256:=by omega
    omega
   have e1:c.take (i+1)=c.take i++[(t,b,q)]:=by rw [List.take_add_one,hx];rfl
   cases b with
   | true=>exact ⟨(a.1,true,a.2.2),⟨by rw [Kw,e1];simp [chL],by rw [e1];simp,by rw [Tx,e1];simp⟩,aZd (by omega) hx rfl (aM (by omega)) rfl⟩
   | false =>
    have h1:(cH al s t).1≤al.length:=(nN al s t al.length).1;obtain ⟨n',hl⟩:=bTp hal s c a.2.1 i t false q a.1 (by omega)
    exact ⟨(a.1++aLd (cH al s t).1 (cH al s t).2,a.2.1,true),⟨by rw [Kw,e1];simp [chL],by rw [Tw,e1];simp,by rw [e1];simp⟩,aZe (by omega) hx rfl hal (aM (by omega)) hl (aM (by omega)) rfl rfl rfl⟩)
  (fun a _=>aZf (by omega)) (acc:=([],false,false)) (by simp)
 rw [List.take_length] at hI hJ hK
 have hb:=aHt hal s c;have:=bTo (s:=s) hx hL (by rw [hI];omega) (by rw [List.length_mergeSort,hI];omega) (base:=base)
 rw [hI,hJ,hK] at this
 exact this
end
section
variable {s1 s2 x0 x1 bib Aa Ab:Int}{l:Lqq}{i i0 base:Nat}
variable {dl:Int}{sk dc:Lqq}

theorem bFi:((0:Int) != 0)=false:=by first | decide | simp
def tS(l:Lqq)(x0 x1:Int)(i:Nat):St:=⟨fr 19 [(0,(.p (fS l))),(3,(.ptr 0 0)),(7,(pI (l.length:Int))),(8,(pI (i:Int)))],[some (.box 80 [(pI x0),(pI x1)])]⟩
theorem bTi{Aw:Nat}(hl0:aF Tp 0 (sub (cd Tryz.f179) cw) (tS l x0 x1 0) .ret (cC (tS l x0 x1 Aw) [(4,(pI (Aw:Int)))])):FV Tp 179 [(.p (fS l)),(.p (.agg [(aA x0),(aA x1)]))] base (pI (Aw:Int)) []:=FV.fi func179 [hl0.k 6 (gI [1,2,4,3,9,10] [0])] (gc hl0.code gn)
section
variable(h0:(i:Int)<(l.length:Int))(h1:l[i]? = some [Aa,Ab])(h2:uni 2 l)(h3:dL [(aA x0),(aA x1)] [(0,3,true),(1,3,true)]=true∧dL [(aA Aa),(aA Ab)] [(0,3,true),(1,3,true)]=true)
include h0 h1 h2 h3
theorem aYv(h4:(mB [(aA x0),(aA x1)] [(aA Aa),(aA Ab)] [(0,3,true),(1,3,true)])=true):aC Tp 0 (sub (cd Tryz.f179) cw) (tS l x0 x1 i) .ret (cC (tS l x0 x1 i) [(4,(pI (i:Int)))]):=aC.fi (gI [1,2,5,2,9,10] [0]) [bT,.x (.agg [(aA Aa),(aA Ab)]),bT] (gc h4 (gc h3 (gfl h2 h1 (g0 h0))))
theorem aYw{i':Nat}(h4:(mB [(aA x0),(aA x1)] [(aA Aa),(aA Ab)] [(0,3,true),(1,3,true)])=false)(h5:da i)(Ai:i'=(i+1)):aC Tp 0 (sub (cd Tryz.f179) cw) (tS l x0 x1 i) .normal (tS l x0 x1 i'):=by
 subst Ai;exact aC.fi (gI [1,2,4,3,9,10] [0]) [bT,.x (.agg [(aA Aa),(aA Ab)]),bF] (gc h5 (gc h4 (gc h3 (gfl h2 h1 (g0 h0)))))
end
theorem bTj{l:Lqq}(hu:uni 2 l)(hn:(aL l 0).Nodup)(hl:l.length≤1000){i:Nat}{x0 x1:Int}(hi:l[i]? = some [x0,x1]){base:Nat}:FV Tp 179 [.p (fS l),.p (.agg [aA x0,aA x1])] base (pI (i:Int)) []:=by
 have hlt:=aX hi;refine bTi (Aw:=i) ?_;have hne:∀ j,j<i→∃ y0 y1,l[j]? = some [y0,y1]∧y0≠x0:=fun j hj=>by
  obtain ⟨y0,y1,hy⟩:=at2 hu (i:=j) (by omega)
  refine ⟨y0,y1,hy,fun e => ?_⟩
  have e1:(aL l 0)[j]? = some y0:=by unfold aL;rw [B6,hy];rfl
  have e2:(aL l 0)[i]? = some x0:=by unfold aL;rw [B6,hi];rfl
  obtain ⟨I3,Dm⟩:=A2.1 e1;obtain ⟨Hw,E8⟩:=A2.1 e2;have:=List.pairwise_iff_getElem.1 hn j i I3 Hw hj;rw [Dm,E8] at this
  exact this e
 exact aF.until (P:=Tp) i (fun j=>tS l x0 x1 j) i (cP _)
  (fun j hj=>by
   obtain ⟨y0,y1,hy,hn⟩:=hne j hj;exact aYw (by omega) hy hu ⟨rfl,rfl⟩ (by simp [mB,aDe];exact fun h=>absurd h.symm hn) (aM (by omega)) rfl)
  (aYv (by omega) hi hu ⟨rfl,rfl⟩ (by simp [mB,aDe])) (by simp)
theorem vF(h:cF dl sk dc):uni 2 (aB sk)∧(aB sk).length≤30∧(∀ s∈aB sk,-1≤s.getD 1 0∧s.getD 1 0≤360000)∧(aL (aB sk) 0).Nodup:=by
 have hp:=dC sk;refine ⟨kW h.us,by rw [fB];exact h.len.2,fun s hs=>(aHm.1 (h.hsk s (hp.mem_iff.1 hs))).2,?_⟩
 unfold aL;exact (hp.map _).nodup_iff.2 h.ns
theorem aTt(h:cF dl sk dc)(ho:(aU dl (aB dc)).length≤8){base:Nat}:FV Tp 91 [qY dl (aB sk) (aB dc)] base (.tup [.own base,.p (aA 0)]) [(base,.row 232 (bQ dl (aB sk) (aB dc)).length ((bQ dl (aB sk) (aB dc)).map hpE).flatten)]:=by
 obtain ⟨h1,h2,h3,_⟩:=vF h;exact bTr (lF h) h1 (by omega) h3 ho
theorem bLn(h:cF dl sk dc){i:Nat}{x0 x1:Int}(hi:(aB sk)[i]? = some [x0,x1]){base:Nat}:FV Tp 179 [.p (fS (aB sk)),.p (.agg [aA x0,aA x1])] base (pI (i:Int)) []:=by
 obtain ⟨h1,h2,_,h4⟩:=vF h;exact bTj h1 h4 (by omega) hi
section
variable(h0:cF dl sk dc)(h1:bGa (aB sk) bib=(i0:Int))(h2:(aB sk)[i0]? = some [s1,s2])(h3:(aU dl (aB dc)).length≤8)
include h0 h1 h2 h3
theorem bTk:FV Tp 132 [(.p (.agg (dX dl sk dc))),(pI bib)] base (.tup [(.p (.sl ((bQ dl (aB sk) (aB dc)).length) (((bQ dl (aB sk) (aB dc)).map hpE).flatten))),(pI (i0:Int)),(pI 0)]) []:=have k1:=fk 1 (bGb h0 h1 h2) rfl;have k2:=fk 2 (aTt h0 h3) rfl;FV.frz (FMM.fi 0 ⟨[],[],[2],[]⟩ func132 [k1.o,bF,k2.o,.x (.sl ((aB sk).length) ((aB sk).flatten.map aA)),.c (pI (i0:Int)) []] (gc (fk 3 (bLn h0 h2) rfl) (gr (.sl ((aB sk).length) ((aB sk).flatten.map aA)) (gc k2 (gc bFi (gc k1 gn)))))) (by kernel_rfl)
theorem bTl{c3:List bX}{To Tq:Int}{r0:Bool}(h4:(bQ dl (aB sk) (aB dc))[i0]? = some (c3,To,Tq))(h5:(bQ dl (aB sk) (aB dc)).length≤1000)(h6:c3.length≤256)(Ak:r0=(c3.any fun x=>x.2.1)):FV Tp 68 [(.p (.agg (dX dl sk dc))),(pI bib)] base (.tup [(.p (aG (oM (bQ dl (aB sk) (aB dc)) i0 c3))),(pB r0),(pI 0)]) []:=by
 subst Ak;have k1:=fk 1 (bTk h0 h1 h2 h3) rfl;have k2:=fk 1 (aPt h5 h4 h6) rfl;exact FV.fi func68 [k1.o,bF,k2.o] (gc k2 (gc bFi (gc k1 gn)))
end
end
section
variable {a b:Bool}{f fi Aa Ab I9 Ja:Int}{l o:List Int}{i i' base:Nat}
variable {dl:Int}{sk dc:Lqq}

noncomputable abbrev aHq:Code:=pS (cd Tryz.f47) 7 [0,1,0,0]
theorem bFg:((0:Int) != 0)=false:=by first | decide | simp
theorem bTd{x0:Int}{r0:Bool}(h0:b=true)(h1:a=false)(h2:inR ((l.length:Int)-1))(h3:l[((l.length:Int)-1).toNat]? = some x0)(h4:0≤((l.length:Int)-1))(Ak:r0=(decide (x0≤f))):FV Tp 133 [(.p (aG l)),(pB a),(pB b),(.rp [(aA f)] 0)] base (pB r0) []:=by
 subst Ak;exact FV.fi func133 (rT 9++[.x (aA x0),bT,.x (aA f),bT,bT]) (Bc (bZ h1) (gr (aA f) (gc (bZ h1) (gt ((l.map aA)[(((l.length:Int)-1).toNat*1)]? = some (aA x0)) (mE (i:=((l.length:Int)-1).toNat) h3) (gc (bZ h1) (gc (oI (g:=aA) h4 h3) (gc (bZ h1) (gc h2 (A3 (bZ h1) (Ar h0 gn))))))))))
theorem bTe(h0:b=true)(h1:a=true):FV Tp 133 [(.p (aG l)),(pB a),(pB b),(.rp [(aA f)] 0)] base (pB false) []:=FV.fi func133 ([bT,bT,bT]++rF 9) (Jn (aV h1) (gc (aV h1) (Ar h0 gn)))
theorem bTf(h0:b=false):FV Tp 133 [(.p (aG l)),(pB a),(pB b),(.rp [(aA f)] 0)] base (pB false) []:=FV.fi func133 [bF,bF,bF] (Ar h0 gn)
def aPs(l:List Int)(a b:Bool)(f:Int):Bool:=b && (!a && decide (l.getD (l.length-1) 0≤f))
theorem bFh(l:List Int)(a b:Bool)(f:Int)(hl:l.length≤1000000)(hb:b=true→l≠[]){base:Nat}:FV Tp 133 [.p (aG l),.p (blP a),.p (blP b),.rp [aA f] 0] base (pB (aPs l a b f)) []:=by
 cases b with
 | false=>exact bTf rfl
 | true =>
  cases a with
  | true=>exact bTe rfl rfl
  | false =>
   have h0:=hb rfl;have h1:0<l.length:=List.length_pos_iff.2 h0;have h2:l[l.length-1]? = some (l.getD (l.length-1) 0):=by rw [Bj,Ap (by omega)];rfl
   have e:((l.length:Int)-1).toNat=l.length-1:=by omega
   exact bTd (x0:=l.getD (l.length-1) 0) rfl rfl (by show _∧_;omega) (by rw [e];exact h2) (by omega) (by unfold aPs;simp)
def mO(dl:Int)(sk dc:Lqq)(fi:Int)(on:Nat)(oc:List PV)(i:Nat):St:=⟨fr 58 [(2,(.fn 133 [] [(.rp [(aA fi)] 0)])),(6,(.p dY)),(7,(pI 0)),(10,(.p (.sl ((bQ dl (aB sk) (aB dc)).length) (((bQ dl (aB sk) (aB dc)).map hpE).flatten)))),(11,(.own 0)),(36,(.p (.sl ((aB sk).length) ((aB sk).flatten.map aA)))),(37,(pI ((aB sk).length:Int))),(38,(pI (i:Int)))],[some (.row 3 on oc)]⟩
theorem bTg{Jb:List Int}{Gp:Nat}(h0:cF dl sk dc)(h1:(1:Int)≤fi)(h2:(aU dl (aB dc)).length≤8)(Bl:aF Tp 0 aHq (mO dl sk dc fi 0 [] 0) (.exit 0) (mO dl sk dc fi Jb.length (Jb.map aA) Gp)):FV Tp 47 [(.p (.agg (dX dl sk dc))),(pI fi),(.fn 133 [] [(.rp [(aA fi)] 0)])] base (.tup [(.p (aG Jb)),(pI 0)]) []:=have k1:=fk 1 (jR dl sk dc h0) rfl;have k2:=fk 1 (aTt h0 h2) rfl;FV.frz (FMM.fi 0 ⟨[],[],[0],[]⟩ func47 [k1.o,bF,bF,k2.o,bF,.g 1 ⟨[],[0],[1],[]⟩,.x (.sl ((aB sk).length) ((aB sk).flatten.map aA)),Bl.k 1 (gN ba [1] [(11,3)])] (gc Bl.code (gr (.sl ((aB sk).length) ((aB sk).flatten.map aA)) (gc bFg (gc k2 (gc (bA h1) (gc bFg (gc k1 gn)))))))) (by kernel_rfl)
section
variable{Br:List bX}(h0:(i:Int)<((aB sk).length:Int))(h1:(aB sk)[i]? = some [Aa,Ab])(h2:uni 2 (aB sk))(h3:(bQ dl (aB sk) (aB dc))[i]? = some (Br,I9,Ja))(h4:(bQ dl (aB sk) (aB dc)).length≤1000)(h5:Br.length≤256)(h6:(oM (bQ dl (aB sk) (aB dc)) i Br).length≤1000000)(h7:(Br.any fun x => !x.2.1)=true→(oM (bQ dl (aB sk) (aB dc)) i Br)≠[])
include h0 h1 h2 h3 h4 h5 h6 h7
theorem aYs{o':List Int}(h8:(aPs (oM (bQ dl (aB sk) (aB dc)) i Br) (Br.any fun x=>x.2.1) (Br.any fun x => !x.2.1) fi)=true)(h9:[(aA Aa)].length=1*1∧o.length+1≤1000000)(B0:da i)(Cs:o'.length=(o.length+1))(Ct:o'.map aA=((o.map aA)++[(aA Aa)]))(Ai:i'=(i+1)):aC Tp 0 aHq (mO dl sk dc fi o.length (o.map aA) i) .normal (mO dl sk dc fi o'.length (o'.map aA) i'):=by
 subst Ai;have k1:=fk 2 (aPt h4 h3 h5) rfl;have k2:=fk 2 (bFh (oM (bQ dl (aB sk) (aB dc)) i Br) (Br.any fun x=>x.2.1) (Br.any fun x => !x.2.1) fi h6 h7) rfl;rw [Cs,Ct];exact aC.fi (gI ba [3]) [bT,.x (.agg [(aA Aa),(aA Ab)]),k1.o,k2.o,bT] (gc B0 (gc h9 (gc h8 (gc k2 (gc k1 (gfl h2 h1 (g0 h0)))))))
theorem aYt(h8:(aPs (oM (bQ dl (aB sk) (aB dc)) i Br) (Br.any fun x=>x.2.1) (Br.any fun x => !x.2.1) fi)=false)(h9:da i)(Ai:i'=(i+1)):aC Tp 0 aHq (mO dl sk dc fi o.length (o.map aA) i) .normal (mO dl sk dc fi o.length (o.map aA) i'):=by
 subst Ai;have k1:=fk 2 (aPt h4 h3 h5) rfl;have k2:=fk 2 (bFh (oM (bQ dl (aB sk) (aB dc)) i Br) (Br.any fun x=>x.2.1) (Br.any fun x => !x.2.1) fi h6 h7) rfl;exact aC.fi (gI ba [0]) [bT,.x (.agg [(aA Aa),(aA Ab)]),k1.o,k2.o,bF] (gc h9 (gc h8 (gc k2 (gc k1 (gfl h2 h1 (g0 h0))))))
end
theorem aYu(h0:((aB sk).length:Int)≤(i:Int)):aC Tp 0 aHq (mO dl sk dc fi o.length (o.map aA) i) (.exit 0) (mO dl sk dc fi o.length (o.map aA) i):=aC.fi (gI ba [0]) [bF] (gc (bA h0) gn)
abbrev bXo(dl:Int)(sk dc:Lqq)(fi:Int)(o:List Int)(e:Int):Prop:=∀ base:Nat,FV Tp 47 [.p (.agg (dX dl sk dc)),.p (aA fi),.fn 133 [] [.rp [aA fi] 0]] base (.tup [.p (aG o),.p (aA e)]) []
theorem bTh{e0:Int}{o1:List Int}(h0:bXo dl sk dc fi o1 e0):FV Tp 69 [(.p (.agg (dX dl sk dc))),(pI fi)] base (.tup [(.p (aG o1)),(pI e0)]) []:=FV.fi func69 [.g 3 ⟨[],[0],[1],[]⟩,.x (aA fi),.c (.tup [(.p (aG o1)),(pI e0)]) []] (gc (fk 1 (h0 _) rfl) (gr (aA fi) gn))
end
end KV
end Go.Proofs
section
namespace Go.Proofs
open Go.RowKit Go.Lib
namespace KV
open Tryz
theorem bLk(o:List Int):iK o≠[]:=fun h=>by
 have:=vG o;rw [h] at this
 have:=Nat.two_pow_pos o.length;simp at *
 omega
theorem bFd(l:List bX):∀ m,l.foldl (fun m x=>if x.1<m then x.1 else m) m≤m∧∀ x∈l,l.foldl (fun m x=>if x.1<m then x.1 else m) m≤x.1:=by
 induction l with
 | nil=>intro m;exact ⟨Int.le_refl _,fun x h=>by cases h⟩
 | cons a l ih =>
  intro m;rw [wI];obtain ⟨h1,h2⟩:=ih (if a.1<m then a.1 else m)
  have ha:(if a.1<m then a.1 else m)≤m∧(if a.1<m then a.1 else m)≤a.1:=by split <;> omega
  exact ⟨by omega,fun x hx=>by
   rcases gG.1 hx with rfl | hx
   ·omega
   ·exact h2 x hx⟩
theorem bFe(l:List bX):∀ m,m≤l.foldl (fun m x=>if x.1 > m then x.1 else m) m∧∀ x∈l,x.1≤l.foldl (fun m x=>if x.1 > m then x.1 else m) m:=by
 induction l with
 | nil=>intro m;exact ⟨Int.le_refl _,fun x h=>by cases h⟩
 | cons a l ih =>
  intro m;rw [wI];obtain ⟨h1,h2⟩:=ih (if a.1 > m then a.1 else m)
  have ha:m≤(if a.1 > m then a.1 else m)∧a.1≤(if a.1 > m then a.1 else m):=by split <;> omega
  exact ⟨by omega,fun x hx=>by
   rcases gG.1 hx with rfl | hx
   ·omega
   ·exact h2 x hx⟩
theorem bLl{l:List bX}(h:l≠[]):mnM l≤mxM l:=by
 obtain ⟨x,hx⟩:=List.exists_mem_of_ne_nil l h;exact Int.le_trans ((bFd l far).2 x hx) ((bFe l 0).2 x hx)
theorem bLm(dl:Int)(dc:Lqq)(s0 s1:Int)(o:List Int):(nO dl dc s0 s1 o).2.1≤(nO dl dc s0 s1 o).2.2:=bLl fun h=>bLk o (List.map_eq_nil_iff.1 h)
theorem aFi(dl:Int)(sk dc:Lqq):(bQ dl sk dc).length=sk.length:=by unfold bQ;simp
theorem aLa{dl:Int}{sk dc:Lqq}{i:Nat}{s:List Int}(h:sk[i]? = some s):(bQ dl sk dc)[i]? = some (nO dl dc (s.getD 0 0) (s.getD 1 0) (tU dl dc (s.getD 0 0))):=by
 unfold bQ;rw [B6,h];rfl
theorem aLb{dl:Int}{dc:Lqq}{s0 s1:Int}(b:Int)(ho:(aU dl dc).length≤8):(nO dl dc s0 s1 (tU dl dc b)).1.length≤256:=by
 show ((iK (tU dl dc b)).map _).length≤256;rw [A8,vG];have:=bFk dl dc b;exact fL (Nat.pow_le_pow_right (by omega) (show (tU dl dc b).length≤8 by omega)) (by decide)
theorem aTr{al:List eK}(h:∀ x∈al,x.2.1≤x.2.2)(s:Nat)(t:Int):∀ i,(gV al s t i).1≤(gV al s t i).2
 | 0=>cP _
 | i+1=>by
  have ih:=aTr h s t i;unfold gV
  split
  ·rename_i x hx
   have:=h x (Bf hx)
   split
   ·exact ih
   ·dsimp only
    split <;> split <;> omega
  ·exact ih
theorem aPr{l:List Int}(h:l≠[]):Lib.compact l≠[]:=fun e=>by
 have:(Lib.compact l).length=0:=by rw [e];rfl
 unfold Lib.compact Lib.compactUpTo at this
 rw [A8] at this
 have h0:0∈(List.range l.length).filter (Lib.keeps l.toArray):=aBd.2 ⟨vA.2 (List.length_pos_iff.2 h),Lib.keeps_lt_one _ 0 (by omega)⟩
 rw [aDh this] at h0
 cases h0
theorem bFf{al:List eK}(h:∀ x∈al,x.2.1≤x.2.2)(s:Nat){c:List bX}(hc:(c.any fun x => !x.2.1)=true):oM al s c≠[]:=by
 unfold oM;refine aPr fun e => ?_
 have e2:c.flatMap (chL al s)=[]:=by
  have:=List.length_mergeSort (le:=KL.leB) (c.flatMap (chL al s));rw [e] at this
  exact aDh this.symm
 obtain ⟨x,hx,hn⟩:=List.any_eq_true.1 hc;have h1:chL al s x=[]:=List.flatMap_eq_nil_iff.1 e2 x hx;have hf:x.2.1=false:=by simpa using hn
 unfold chL aLd at h1
 rw [hf] at h1
 have:=congrArg List.length h1;have hl:=aTr h s x.1 al.length;simp at this
 have h3:(cH al s x.1).1≤(cH al s x.1).2:=hl;omega
theorem aTs{al:List eK}(hal:al.length≤1000)(s:Nat){c:List bX}(hc:c.length≤256):(oM al s c).length≤1000000:=by
 unfold oM;refine fL (aCm _) ?_;rw [List.length_mergeSort];have:=aHt hal s c;omega
theorem aLc(dl:Int)(sk dc:Lqq):∀ x∈bQ dl sk dc,x.2.1≤x.2.2:=fun x hx=>by
 obtain ⟨s,_,rfl⟩:=dH.1 hx;exact bLm ..
end KV
end Go.Proofs
end
namespace Go.Proofs
namespace KV
open Tryz
section
def yA(dl:Int)(sk dc:Lqq)(f:Int)(i:Nat):Bool:=match (bQ dl sk dc)[i]? with
 | some h=>aPs (oM (bQ dl sk dc) i h.1) (h.1.any fun x=>x.2.1) (h.1.any fun x => !x.2.1) f
 | none=>false
def aKz(dl:Int)(sk dc:Lqq)(f:Int):List Int:=((List.range sk.length).filter (yA dl sk dc f)).map fun i=>(sk.getD i []).getD 0 0
theorem bTa{dl:Int}{sk dc:Lqq}(h:cF dl sk dc){bib:Int}{i:Nat}{s0 s1:Int}(hp:bGa (aB sk) bib=(i:Int))(hs:(aB sk)[i]? = some [s0,s1])(ho:(aU dl (aB dc)).length≤8){base:Nat} :
  FV Tp 68 [.p (.agg (dX dl sk dc)),.p (aA bib)] base (.tup [.p (aG (oM (bQ dl (aB sk) (aB dc)) i (nO dl (aB dc) s0 s1 (tU dl (aB dc) s0)).1)),.p (blP ((nO dl (aB dc) s0 s1 (tU dl (aB dc) s0)).1.any fun x=>x.2.1)),.p (aA 0)]) []:=by
 obtain ⟨_,h2,_,_⟩:=vF h;exact bTl h hp hs ho (aLa hs) (by rw [aFi];omega) (aLb s0 ho) rfl
theorem bTb{dl:Int}{sk dc:Lqq}(h:cF dl sk dc){f:Int}(hf:1≤f)(ho:(aU dl (aB dc)).length≤8):bXo dl sk dc f (aKz dl (aB sk) (aB dc) f) 0:=fun base=>by
 obtain ⟨h1,h2,_,_⟩:=vF h;obtain ⟨o,hI,hL⟩:=aF.ex (P:=Tp) (k:=0) (b:=sub (cd Tryz.f47) [1,1,1,1,1,1,1,0,1,0,0]) (e := .exit 0) (fun i (o:List Int)=>mO dl sk dc f o.length (o.map aA) i) (fun o=>mO dl sk dc f o.length (o.map aA) (aB sk).length)
  (fun i o=>o=((List.range i).filter (yA dl (aB sk) (aB dc) f)).map fun i=>((aB sk).getD i []).getD 0 0) (by simp) (aB sk).length
  (fun i o hi hoE=>by
   obtain ⟨y0,y1,hy⟩:=at2 h1 hi;have hat:=aLa (dl:=dl) (dc:=aB dc) hy;have hlen:o.length≤i:=by
    rw [hoE,A8];have:=aBa (yA dl (aB sk) (aB dc) f) (List.range i);simpa using this
   have hmb:yA dl (aB sk) (aB dc) f i=aPs (oM (bQ dl (aB sk) (aB dc)) i (nO dl (aB dc) y0 y1 (tU dl (aB dc) y0)).1) ((nO dl (aB dc) y0 y1 (tU dl (aB dc) y0)).1.any fun x=>x.2.1) ((nO dl (aB dc) y0 y1 (tU dl (aB dc) y0)).1.any fun x => !x.2.1) f:=by
    unfold yA;rw [hat];rfl
   have hal:(bQ dl (aB sk) (aB dc)).length≤1000:=by rw [aFi];omega
   have hc:=aLb (s0:=y0) (s1:=y1) y0 ho;have hg:((aB sk).getD i []).getD 0 0=y0:=by simp [Bj,hy]
   cases hb:yA dl (aB sk) (aB dc) f i with
   | true =>
    refine ⟨o++[y0],?_,aYs (by omega) hy h1 hat hal hc (aTs hal i hc) (fun hn=>bFf (aLc _ _ _) i hn) (by rw [← hb,hmb];rfl) ⟨rfl,by omega⟩ (aM (by omega)) (by simp) (by simp) rfl⟩
    rw [hoE,List.range_succ,sD,eE];simp only [List.filter_cons,hb,if_true,List.filter_nil,gT,List.map_nil,hg]
   | false =>
    refine ⟨o,?_,aYt (by omega) hy h1 hat hal hc (aTs hal i hc) (fun hn=>bFf (aLc _ _ _) i hn) (by rw [← hb,hmb];rfl) (aM (by omega)) rfl⟩
    rw [hoE,List.range_succ,sD,eE];simp [List.filter_cons,hb])
  (fun o _=>aYu (by omega)) (acc:=[]) (by simp)
 have e:o=aKz dl (aB sk) (aB dc) f:=hI;rw [← e];exact bTg h hf ho hL
theorem bTc{dl:Int}{sk dc:Lqq}(h:cF dl sk dc){f:Int}(hf:1≤f)(ho:(aU dl (aB dc)).length≤8){base:Nat}:FV Tp 69 [.p (.agg (dX dl sk dc)),.p (aA f)] base (.tup [.p (aG (aKz dl (aB sk) (aB dc) f)),.p (aA 0)]) []:=bTh (bTb h hf ho)
end
section
variable {c Ah Cj Aa Ab Ac Ad Ae Af:Int}{a b:Lqq}{i i' Aw base:Nat}

noncomputable abbrev wQ:Code:=sub (cd Tryz.f70) [1,1,0,1,0,0]
noncomputable abbrev wR:Code:=sub (cd Tryz.f38) [1,1,0,1,0,0]
theorem bSs{dl:Int}{sk dc:Lqq}{bib:Int}{i0:Nat}{s1 s2 n3:Int}{b4:Bool}{T5:Lqb}(h0:cF dl sk dc)(h1:bGa (aB sk) bib=(i0:Int))(h2:(aB sk)[i0]? = some [s1,s2])(h3:aDo dl (aB sk) (aB dc) dY [s1,s2] n3 b4 ([]:Lqb) T5):FV Tp 65 [(.p (.agg (dX dl sk dc))),(pI bib)] base (.tup [(pI n3),(pB b4),(pI 0)]) []:=have k1:=fk 1 (bGb h0 h1 h2) rfl;have k2:=mN [] 2 (aIi (dl:=dl) (sk:=(aB sk)) (dc:=(aB dc)));have k3:=mq [2,3,4,5,6,7,8] 10 h3;FV.fi func65 [k1.o,bF,k2.o,k3.o] (gc k3 (gc k2 (gt (((0:Int) != 0)=false) (by first | decide | simp) (gc k1 gn))))
def jK(a b:Lqq)(i:Nat):St:=⟨fr 26 [(0,(.p (fS a))),(1,(.p (fS b))),(12,(pI (a.length:Int))),(13,(pI (i:Int)))],[]⟩
theorem bSt(h0:(a.length:Int)≠(b.length:Int)):FV Tp 70 [(.p (fS a)),(.p (fS b))] base (pB false) []:=FV.fi func70 [bT] (gc (sQ h0) gn)
theorem bSu(h0:(a.length:Int)=(b.length:Int))(hl1:aF Tp 0 wQ (jK a b 0) (.exit 0) (jK a b Aw)):FV Tp 70 [(.p (fS a)),(.p (fS b))] base (pB true) []:=FV.fi func70 [bF,hl1.k 4 (gZ cu)] (gc hl1.code (gc (iI h0) gn))
theorem bSv(h0:(a.length:Int)=(b.length:Int))(hl1:aF Tp 0 wQ (jK a b 0) .ret (cC (jK a b Aw) [(4,(.kb false))])):FV Tp 70 [(.p (fS a)),(.p (fS b))] base (pB false) []:=FV.fi func70 [bF,hl1.k 4 (gZ cu)] (gc hl1.code (gc (iI h0) gn))
section
variable(h0:(i:Int)<(a.length:Int))(h1:a[i]? = some [Aa,Ab,Ac])(h2:uni 3 a)(h3:b[i]? = some [Ad,Ae,Af])(h4:uni 3 b)(h5:dL [(aA Aa),(aA Ab),(aA Ac)] [(0,3,true),(1,3,true),(2,3,true)]=true∧dL [(aA Ad),(aA Ae),(aA Af)] [(0,3,true),(1,3,true),(2,3,true)]=true)
include h0 h1 h2 h3 h4 h5
theorem aYm(h6:(mB [(aA Aa),(aA Ab),(aA Ac)] [(aA Ad),(aA Ae),(aA Af)] [(0,3,true),(1,3,true),(2,3,true)])=false):aC Tp 0 wQ (jK a b i) .ret (cC (jK a b i) [(4,(.kb false))]):=aC.fi (gZ [2,2,5,7,14,12]) [bT,.x (.agg [(aA Aa),(aA Ab),(aA Ac)]),.x (.agg [(aA Ad),(aA Ae),(aA Af)]),bT] (gc (bZ h6) (gc h5 (gfl h4 h3 (gfl h2 h1 (g0 h0)))))
theorem aYn(h6:(mB [(aA Aa),(aA Ab),(aA Ac)] [(aA Ad),(aA Ae),(aA Af)] [(0,3,true),(1,3,true),(2,3,true)])=true)(h7:da i)(Ai:i'=(i+1)):aC Tp 0 wQ (jK a b i) .normal (jK a b i'):=by
 subst Ai;exact aC.fi (gZ cu) [bT,.x (.agg [(aA Aa),(aA Ab),(aA Ac)]),.x (.agg [(aA Ad),(aA Ae),(aA Af)]),bF] (gc h7 (gc (aV h6) (gc h5 (gfl h4 h3 (gfl h2 h1 (g0 h0))))))
end
theorem aYo(h0:(a.length:Int)≤(i:Int)):aC Tp 0 wQ (jK a b i) (.exit 0) (jK a b i):=aC.fi (gZ cu) [bF] (gc (bA h0) gn)
theorem bSw(a b:Lqq)(ha:uni 3 a)(hb:uni 3 b)(hl:a.length≤1000){base:Nat}:FV Tp 70 [.p (fS a),.p (fS b)] base (pB (decide (a=b))) []:=by
 by_cases hlen:a.length=b.length
 ·have eqx:∀ i,i<a.length→∃ x y,a[i]? = some x∧b[i]? = some y∧x.length=3∧y.length=3:=fun i hi =>
   ⟨a[i],b[i],Ap hi,Ap (by omega),ha _ (eT hi),hb _ (eT (by omega))⟩
  rcases aF.find (P:=Tp) (k:=0) (b:=wQ) (fun i=>jK a b i) (fun i _=>cC (jK a b i) [(4,.kb false)]) (jK a b a.length) .ret (.exit 0) (by simp) (by simp) (fun j=>decide (a.getD j []≠b.getD j [])) (List.range a.length)
   (fun i x hx hp=>by
    have hi:i<a.length:=by have:=aX hx;simpa using this
    obtain ⟨y,z,hy,hz,ly,lz⟩:=eqx i hi;obtain ⟨a,b,c,rfl⟩:=Ed ly;obtain ⟨a',b',c',rfl⟩:=Ed lz;have hxi:x=i:=by rw [aOg hi] at hx;exact (Option.some.inj hx).symm
    subst hxi;have he:=of_decide_eq_false hp;simp only [Bj,hy,hz,Option.getD_some,ne_eq,Classical.not_not] at he
    cases he;exact aYn (by omega) hy ha hz hb ⟨rfl,rfl⟩ (by simp [mB,aDe]) (aM (by omega)) rfl)
   (fun i x hx hp=>by
    have hi:i<a.length:=by have:=aX hx;simpa using this
    obtain ⟨y,z,hy,hz,ly,lz⟩:=eqx i hi;obtain ⟨a,b,c,rfl⟩:=Ed ly;obtain ⟨a',b',c',rfl⟩:=Ed lz;have hxi:x=i:=by rw [aOg hi] at hx;exact (Option.some.inj hx).symm
    subst hxi;have he:=of_decide_eq_true hp;simp only [Bj,hy,hz,Option.getD_some] at he
    exact aYm (by omega) hy ha hz hb ⟨rfl,rfl⟩ (by
     rw [Bool.eq_false_iff];intro h;simp [mB,aDe] at h
     exact he (by simp [h])))
   (by rw [aDj];exact aYo (by omega)) with ⟨i,x,h1,h2,h3,h4⟩ | ⟨h1,h2,h3⟩
  ·have hi:i<a.length:=by have:=aX h1;simpa using this
   have hxi:x=i:=by rw [aOg hi] at h1;exact (Option.some.inj h1).symm
   have he:=of_decide_eq_true h3;rw [decide_eq_false (fun e=>he (by rw [e]))]
   exact bSv (by omega) h4
  ·have hall:∀ i,i<a.length→a.getD i []=b.getD i []:=fun i hi=>by
    have:=List.any_eq_false.1 h2 i (vA.2 hi);simpa using this
   have e:a=b:=by
    apply List.ext_getElem hlen;intro i h1 h2;have:=hall i h1;simpa [Bj,Ap h1,Ap h2] using this
   rw [decide_eq_true e];exact bSu (by omega) h3
 ·rw [decide_eq_false (fun e=>hlen (by rw [e]))]
  exact bSt (by omega)
def jL(a b:List Int)(i:Nat):St:=⟨fr 26 [(0,(.p (aG a))),(1,(.p (aG b))),(12,(pI (a.length:Int))),(13,(pI (i:Int)))],[]⟩
theorem bSx{a b:List Int}(h0:(a.length:Int)≠(b.length:Int)):FV Tp 38 [(.p (aG a)),(.p (aG b))] base (pB false) []:=FV.fi func38 [bT] (gc (sQ h0) gn)
theorem bSy{a b:List Int}(h0:(a.length:Int)=(b.length:Int))(hl1:aF Tp 0 wR (jL a b 0) (.exit 0) (jL a b Aw)):FV Tp 38 [(.p (aG a)),(.p (aG b))] base (pB true) []:=FV.fi func38 [bF,hl1.k 4 (gZ cu)] (gc hl1.code (gc (iI h0) gn))
theorem bSz{a b:List Int}(h0:(a.length:Int)=(b.length:Int))(hl1:aF Tp 0 wR (jL a b 0) .ret (cC (jL a b Aw) [(4,(.kb false))])):FV Tp 38 [(.p (aG a)),(.p (aG b))] base (pB false) []:=FV.fi func38 [bF,hl1.k 4 (gZ cu)] (gc hl1.code (gc (iI h0) gn))
section
variable{a b:List Int}(h0:(i:Int)<(a.length:Int))(h1:a[i]? = some Ah)(h2:b[i]? = some Cj)
include h0 h1 h2
theorem aYp(h3:Ah≠Cj):aC Tp 0 wR (jL a b i) .ret (cC (jL a b i) [(4,(.kb false))]):=aC.fi (gZ [2,2,5,7,14,12]) [bT,.x (aA Ah),.x (aA Cj),bT] (gc (sQ h3) (gc (atm aA h2) (gc (ixn aA h2) (gc (atm aA h1) (gc (ixn aA h1) (g0 h0))))))
theorem aYq(h3:Ah=Cj)(h4:da i)(Ai:i'=(i+1)):aC Tp 0 wR (jL a b i) .normal (jL a b i'):=by
 subst Ai;exact aC.fi (gZ cu) [bT,.x (aA Ah),.x (aA Cj),bF] (gc h4 (gc (iI h3) (gc (atm aA h2) (gc (ixn aA h2) (gc (atm aA h1) (gc (ixn aA h1) (g0 h0)))))))
end
theorem aYr{a b:List Int}(h0:(a.length:Int)≤(i:Int)):aC Tp 0 wR (jL a b i) (.exit 0) (jL a b i):=aC.fi (gZ cu) [bF] (gc (bA h0) gn)
theorem bFc(a b:List Int)(hl:a.length≤1000){base:Nat}:FV Tp 38 [.p (aG a),.p (aG b)] base (pB (decide (a=b))) []:=by
 by_cases hlen:a.length=b.length
 ·rcases aF.find (P:=Tp) (k:=0) (b:=wR) (fun i=>jL a b i) (fun i _=>cC (jL a b i) [(4,.kb false)]) (jL a b a.length) .ret (.exit 0) (by simp) (by simp) (fun j=>decide (a.getD j 0≠b.getD j 0)) (List.range a.length)
   (fun i x hx hp=>by
    have hi:i<a.length:=by have:=aX hx;simpa using this
    have hxi:x=i:=by rw [aOg hi] at hx;exact (Option.some.inj hx).symm
    subst hxi;have h1:a[x]? = some (a.getD x 0):=by rw [Bj,Ap hi];rfl
    have h2:b[x]? = some (b.getD x 0):=by rw [Bj,Ap (by omega)];rfl
    have he:=of_decide_eq_false hp;exact aYq (by omega) h1 h2 (Classical.not_not.1 he) (aM (by omega)) rfl)
   (fun i x hx hp=>by
    have hi:i<a.length:=by have:=aX hx;simpa using this
    have hxi:x=i:=by rw [aOg hi] at hx;exact (Option.some.inj hx).symm
    subst hxi;have h1:a[x]? = some (a.getD x 0):=by rw [Bj,Ap hi];rfl
    have h2:b[x]? = some (b.getD x 0):=by rw [Bj,Ap (by omega)];rfl
    exact aYp (by omega) h1 h2 (of_decide_eq_true hp))
   (by rw [aDj];exact aYr (by omega)) with ⟨i,x,h1,h2,h3,h4⟩ | ⟨h1,h2,h3⟩
  ·have he:=of_decide_eq_true h3
   rw [decide_eq_false (fun e=>he (by rw [e]))]
   exact bSz (by omega) h4
  ·have hall:∀ i,i<a.length→a.getD i 0=b.getD i 0:=fun i hi=>by
    have:=List.any_eq_false.1 h2 i (vA.2 hi);simpa using this
   have e:a=b:=by
    apply List.ext_getElem hlen;intro i h1 h2;have:=hall i h1
    rwa [Bj,Bj,Ap h1,Ap h2] at this
   rw [decide_eq_true e];exact bSy (by omega) h3
 ·rw [decide_eq_false (fun e=>hlen (by rw [e]))]
  exact bSx (by omega)
theorem aHp{a b:Int}:FV Tp 130 [(pI a),(pI b),(pI c)] base (.p (dcE a 0 0 b c 0)) []:=FV.fi func130 [] gn
theorem gK{a b d e:Int}:FV Tp 131 [(pI a),(pI b),(pI c),(pI d),(pI e)] base (.p (dcE a b d 0 e c)) []:=FV.fi func131 [] gn
end
section

end
section

end
section
end
section
end
section
theorem ofO(l:List Int):FMM Tp 8 [.p (.sl l.length (l.map cU))] [] (.ptr 0 0) [some (nM l 0 17)]:=bXk
end
section
abbrev sB(s:List Int):Int:=s.getD 0 0
abbrev sT(s:List Int):Int:=s.getD 1 0
def eC(dl:Int)(oc:List Int)(dc sk:Lqq):Lqq:=(sk.filter fun s => !(totM dl oc dc (sB s) (sT s)).2).map fun s=>[sB s,0,(totM dl oc dc (sB s) (sT s)).1]
def eJ(dl:Int)(oc:List Int)(dc sk:Lqq):Lqq:=(sk.filter fun s=>(totM dl oc dc (sB s) (sT s)).2).map fun s=>[sB s,-1,0]
def plN(A:Lqq)(t:Int):Int:=match A.getLast? with
 | some y=>if y.getD 2 0=t then y.getD 1 0 else (A.length:Int)+1
 | none=>(A.length:Int)+1
def plS(A:Lqq)(x:List Int):Lqq:=A++[[x.getD 0 0,plN A (x.getD 2 0),x.getD 2 0]]
def iD(l:Lqq):Lqq:=l.foldl plS []
def dI(dl:Int)(oc:List Int)(dc sk:Lqq):Lqq:=iD (isort (ltK 2) (eC dl oc dc sk))++eJ dl oc dc sk

theorem bOd(A D:List PV)(a b c v:PV):(A++[a,b,c]++D).set (A.length+1) v=A++[a,v,c]++D:=by
 induction A with
 | nil=>rfl
 | cons x A ih=>simp
theorem zF{L:Lqq}{j:Nat}{a b c:Int}(hu:uni 3 L)(hj:L[j]? = some [a,b,c])(v:Int):(L.flatten.map aA).set (j*3+1) (aA v)=((L.set j [a,v,c]).flatten.map aA):=by
 obtain ⟨hlt,he⟩:=A2.1 hj;have h0:=vB (k:=3) (i:=j) (x:=[a,b,c]) hu hlt rfl;have h1:=vB (k:=3) (i:=j) (x:=[a,v,c]) hu hlt rfl;have hs:L.set j [a,b,c]=L:=by rw [← he];exact List.set_getElem_self hlt
 rw [hs] at h0
 rw [← h1];have hl:((L.flatten.map aA).take (j*3)).length=j*3:=by
  have:=nK hu hj;rw [nI];omega
 have:=bOd ((L.flatten.map aA).take (j*3)) ((L.flatten.map aA).drop (j*3+3)) (aA a) (aA b) (aA c) (aA v);rw [hl] at this
 conv=>lhs;rw [← h0]
 exact this
theorem bOe(A:Lqq)(x:List Int):(plS A x).length=A.length+1:=by simp [plS]
theorem aUp(l:Lqq):∀ A:Lqq,(l.foldl plS A).length=A.length+l.length:=by
 induction l with
 | nil=>intro A;simp
 | cons x l ih=>intro A;rw [wI,ih,bOe];simp;omega
theorem aIt(l:Lqq):∀ A:Lqq,uni 3 A→uni 3 (l.foldl plS A):=by
 induction l with
 | nil=>intro A h;exact h
 | cons x l ih =>
  intro A h;rw [wI];refine ih _ fun y hy => ?_
  unfold plS at hy
  rcases eU.1 hy with hy | hy
  ·exact h y hy
  ·rw [List.mem_singleton.1 hy];rfl
section
variable {dl:Int} {sk dc:Lqq} {oc:List Int} {ov:PV}
theorem aRu(l:Lqq)(hu:uni 3 l)(hl:l.length<1000)(p q:Lqq)(hp:(isort (ltK 2) p).length=l.length)(t:Lqb) :
  aF Tp 7 (sub (cd Tryz.f53) c6) (iV dl sk dc ov p q t l.length (l.flatten.map aA) 0) (.exit 2) (iV dl sk dc ov p q t (iD l).length ((iD l).flatten.map aA) l.length):=by
 let St (j:Nat):Lqq:=(l.take j).foldl plS []++l.drop j
 have hlen:∀ j,j≤l.length→((l.take j).foldl plS []).length=j:=fun j hj=>by rw [aUp];simp;omega
 have hlS:∀ j,j≤l.length→(St j).length=l.length:=fun j hj=>by
  show (_++_:Lqq).length=_;rw [fK,hlen j hj,bJb];omega
 have huS:∀ j,uni 3 (St j):=fun j y hy=>by
  rcases eU.1 hy with hy | hy
  ·exact aIt _ [] (fun z hz=>by cases hz) y hy
  ·exact hu y (List.mem_of_mem_drop hy)
 have:=aF.count (P:=Tp) (k:=7) (b:=sub (cd Tryz.f53) c6) (e := .exit 2) (R:=iV dl sk dc ov p q t (iD l).length ((iD l).flatten.map aA) l.length) l.length
  (fun j=>iV dl sk dc ov p q t (St j).length ((St j).flatten.map aA) j)
  (fun j hj=>by
   have hx:=hu _ (eT hj);obtain ⟨a,b,c,hx⟩:=Ed hx;have hA:=hlen j (by omega)
   have e1:(l.take (j+1)).foldl plS []=plS ((l.take j).foldl plS []) [a,b,c]:=by
    rw [List.take_add_one,Ap hj,hx];rw [aDk];rfl
   have hdr:l.drop j=[a,b,c]::l.drop (j+1):=by rw [aWm hj,hx]
   have g1:(St j)[j]? = some [a,b,c]:=by
    show ((l.take j).foldl plS []++l.drop j)[j]? = _;rw [aAx (by omega),hA,aWo,hdr];rfl
   have hset:∀ v,(St j).set j [a,v,c]=(l.take j).foldl plS []++[a,v,c]::l.drop (j+1):=fun v=>by
    show ((l.take j).foldl plS []++l.drop j).set j [a,v,c]=_;rw [List.set_append_right _ _ (by omega),hA,aWo,hdr];rfl
   have hnext:St (j+1)=(St j).set j [a,plN ((l.take j).foldl plS []) c,c]:=by
    rw [hset];show (l.take (j+1)).foldl plS []++l.drop (j+1)=_;rw [e1];unfold plS;rw [List.append_assoc];rfl
   have hle:=nK (huS j) g1;have hpl:(j:Int)<((isort (ltK 2) p).length:Int):=by rw [hp];omega
   rw [hnext]
   rcases Nat.eq_zero_or_pos j with h0 | hpos
   ·have hn:plN ((l.take j).foldl plS []) c=(j:Int)+1:=by
     subst h0;rfl
    rw [hn];exact bAf (L:=St j) (L':=(St j).set j [a,((j+1:Nat):Int),c]) (by exact_mod_cast hpl) (aM (by omega)) g1 (by omega) (by omega) (by simp) (zF (huS j) g1 _).symm rfl
   ·have g2:∃ y0 y1 y2,((l.take j).foldl plS []).getLast? = some [y0,y1,y2]∧(St j)[((j:Int)-1).toNat]? = some [y0,y1,y2]:=by
     have hlt:j-1<((l.take j).foldl plS []).length:=by omega
     have h3:=aIt (l.take j) [] (fun z hz=>by cases hz) _ (eT hlt)
     obtain ⟨y0,y1,y2,hy⟩:=Ed h3;refine ⟨y0,y1,y2,?_,?_⟩
     ·rw [List.getLast?_eq_getElem?,hA,Ap hlt,hy]
     ·show ((l.take j).foldl plS []++l.drop j)[((j:Int)-1).toNat]? = _
      rw [show ((j:Int)-1).toNat=j-1 by omega,aAy hlt,Ap hlt,hy]
    obtain ⟨y0,y1,y2,g3,g4⟩:=g2
    by_cases hc:c=y2
    ·have hn:plN ((l.take j).foldl plS []) c=y1:=by
      unfold plN;rw [g3];show (if y2=c then y1 else _)=y1
      rw [if_pos hc.symm]
     rw [hn];have Vk:uni 3 ((St j).set j [a,((j+1:Nat):Int),c]):=aTb (huS j) rfl;have g5:((St j).set j [a,((j+1:Nat):Int),c])[j]? = some [a,((j+1:Nat):Int),c]:=by
      rw [bIy (by rw [hlS j (by omega)];omega)]
     refine bAd (L:=St j) (L':=(St j).set j [a,y1,c]) (by exact_mod_cast hpl) (aM (by omega)) g1 (by omega) (by omega) (huS j) (by show _∧_;omega) g4 (by omega) hc (by rw [nJ];omega) (by simp) ?_ rfl
     rw [zF (huS j) g1,zF Vk g5,List.set_set]
    ·have hn:plN ((l.take j).foldl plS []) c=(j:Int)+1:=by
      unfold plN;rw [g3];show (if y2=c then y1 else _)=_
      rw [if_neg (fun h=>hc h.symm),hA]
     rw [hn];exact bAe (L:=St j) (L':=(St j).set j [a,((j+1:Nat):Int),c]) (by exact_mod_cast hpl) (aM (by omega)) g1 (by omega) (by omega) (huS j) (by show _∧_;omega) g4 (by omega) hc (by simp) (zF (huS j) g1 _).symm rfl)
  (by
   have e:St l.length=iD l:=by
    show (l.take l.length).foldl plS []++l.drop l.length=_;rw [List.take_length,List.drop_length,List.append_nil];rfl
   rw [e];exact bAg (by rw [hp];omega)) (by simp)
 exact this
theorem aFv:(eC dl oc dc sk).length≤sk.length:=by
 unfold eC;rw [A8];exact aBa _ _
theorem aCn:(eJ dl oc dc sk).length≤sk.length:=by
 unfold eJ;rw [A8];exact aBa _ _
theorem aFw:uni 3 (eC dl oc dc sk):=fun y hy=>by
 obtain ⟨s,_,rfl⟩:=dH.1 hy;rfl
theorem aCo:uni 3 (eJ dl oc dc sk):=fun y hy=>by
 obtain ⟨s,_,rfl⟩:=dH.1 hy;rfl
theorem tZ(f:Nat)(l:Lqq):(isort (ltK f) l).length=l.length:=vQ _ _
theorem bCg{k f:Nat}{l:Lqq}(h:uni k l):uni k (isort (ltK f) l):=fun y hy=>h y ((sC _ _ y).1 hy)
theorem aCp(l:Lqq):(iD l).length=l.length:=by unfold iD;rw [aUp];simp
theorem aRv(l:Lqq):uni 3 (iD l):=aIt l [] fun z hz=>by cases hz
theorem rE:uni 3 (dI dl oc dc sk):=fun y hy=>by
 rcases eU.1 hy with hy | hy
 ·exact aRv _ y hy
 ·exact aCo y hy
theorem aMg{α:Type}(p:α→Bool):∀ l:List α,(l.filter fun x => !p x).length+(l.filter p).length=l.length
 | []=>rfl
 | x::l=>by
  have:=aMg p l;cases h:p x <;> simp [h] <;> omega
theorem aMh:(dI dl oc dc sk).length=sk.length:=by
 unfold dI eC eJ;rw [fK,aCp,tZ,A8,A8];exact aMg _ sk
theorem bXw(hd:bS dc)(hov:∀ n,sG ov n (oc.contains n))(hs:uni 2 sk)(hb:∀ x∈sk,skB x=true)(hl:sk.length<20){T:Lqb}(hT:bY dl oc dc T):∃ T',bY dl oc dc T'∧bUd dl sk dc ov (dI dl oc dc sk) T T':=by
 obtain ⟨acc,⟨h1,h2,h3⟩,h4⟩:=aF.ex (P:=Tp) (k:=7) (b:=sub (cd Tryz.f53) ct) (e := .exit 0) (fun i (a:(Lqq × Lqq) × Lqb)=>mV dl sk dc ov a.1.1.length (a.1.1.flatten.map aA) a.1.2.length (a.1.2.flatten.map aA) i (aK a.2) a.2.length)
  (fun a=>mV dl sk dc ov a.1.1.length (a.1.1.flatten.map aA) a.1.2.length (a.1.2.flatten.map aA) sk.length (aK a.2) a.2.length)
  (fun i a=>bY dl oc dc a.2∧a.1.1=eC dl oc dc (sk.take i)∧a.1.2=eJ dl oc dc (sk.take i)) (by simp) sk.length
  (fun i acc hi hI=>by
   obtain ⟨⟨p,q⟩,T1⟩:=acc;obtain ⟨h1,h2,h3⟩:=hI;dsimp only at h1 h2 h3
   have hm:=eT hi;obtain ⟨a,b,hy⟩:=len2 (hs _ hm);have hx:sk[i]? = some [a,b]:=by rw [Ap hi,hy]
   rw [hy] at hm
   have hr : -1≤b∧b≤360000:=by
    have:=hb _ hm;rw [bWb,Bg] at this
    exact bO.1 this.2
   obtain ⟨T2,q1,q2⟩:=bGf (sk:=sk) hd hov a b hr h1;have hp:p.length≤20:=by rw [h2];have:=aFv (dl:=dl) (oc:=oc) (dc:=dc) (sk:=sk.take i);rw [nI] at this;omega
   have hq:q.length≤20:=by rw [h3];have:=aCn (dl:=dl) (oc:=oc) (dc:=dc) (sk:=sk.take i);rw [nI] at this;omega
   have et:sk.take (i+1)=sk.take i++[[a,b]]:=by rw [List.take_add_one,hx];rfl
   rw [et];have e1:eC dl oc dc (sk.take i++[[a,b]])=p++if (totM dl oc dc a b).2 then [] else [[a,0,(totM dl oc dc a b).1]]:=by
    rw [h2];unfold eC;rw [sD,eE]
    congr 1
    show (List.filter _ [[a,b]]).map _=_;cases hq:(totM dl oc dc a b).2 <;> simp [hq]
   have e2:eJ dl oc dc (sk.take i++[[a,b]])=q++if (totM dl oc dc a b).2 then [[a,-1,0]] else []:=by
    rw [h3];unfold eJ;rw [sD,eE]
    congr 1
    show (List.filter _ [[a,b]]).map _=_;cases hq:(totM dl oc dc a b).2 <;> simp [hq]
   rw [e1,e2];cases hc:(totM dl oc dc a b).2 with
   | true =>
    rw [hc] at q2
    exact ⟨((p,q++[[a,-1,0]]),T2),⟨q1,by simp,by simp⟩,bAa (q:=q) (q':=q++[[a,-1,0]]) (by omega) hx hs q2 rfl ⟨rfl,by omega⟩ (aM (by omega)) (by simp) (by simp) rfl rfl rfl⟩
   | false =>
    rw [hc] at q2
    exact ⟨((p++[[a,0,(totM dl oc dc a b).1]],q),T2),⟨q1,by simp,by simp⟩,bAb (p:=p) (p':=p++[[a,0,(totM dl oc dc a b).1]]) (by omega) hx hs q2 rfl ⟨rfl,by omega⟩ (aM (by omega)) (by simp) (by simp) rfl rfl rfl⟩)
  (fun acc hI=>bAc (by omega)) (acc:=(([],[]),T)) ⟨hT,by simp [eC],by simp [eJ]⟩
 obtain ⟨⟨p,q⟩,T1⟩:=acc;dsimp only at h1 h2 h3 h4
 rw [List.take_length] at h2 h3
 subst h2 h3;have hp:=aFv (dl:=dl) (oc:=oc) (dc:=dc) (sk:=sk);have hq:=aCn (dl:=dl) (oc:=oc) (dc:=dc) (sk:=sk);have hP:=aRu (dl:=dl) (sk:=sk) (dc:=dc) (ov:=ov) (isort (ltK 2) (eC dl oc dc sk)) (bCg aFw) (by rw [tZ];omega) (eC dl oc dc sk) (eJ dl oc dc sk) rfl T1
 refine ⟨T1,h1,bUe (Kx:=(dI dl oc dc sk).length) (Dk:=(dI dl oc dc sk).flatten.map aA) h4 aFw (by omega) hP ⟨aBr aCo,by rw [aCp,tZ];omega⟩ ?_ ?_⟩
 ·unfold dI;rw [fK]
 ·unfold dI;rw [aDi,eE]
end
theorem aUq{dl:Int}{sk dc:Lqq}(h:cF dl sk dc):∀ x∈aB sk,skB x=true:=fun x hx=>h.hsk x ((dC sk).mem_iff.1 hx)
theorem aRw{dl:Int}{sk dc:Lqq}(h:cF dl sk dc)(hl:sk.length<20){base:Nat}:FV Tp 25 [.p (.agg (dX dl sk dc))] base (.tup [.own base,.p (aA 0)]) [(base,.row 63 (dI dl [] (aB dc) (aB sk)).length ((dI dl [] (aB dc) (aB sk)).flatten.map aA))]:=by
 obtain ⟨T',h1,h2⟩:=bXw (dl:=dl) (sk:=aB sk) (lF h) aIf (kW h.us) (aUq h) (by rw [fB];exact hl) bY.nil
 exact bUf h h2
theorem bCh{dl:Int}{dc:Lqq}(hd:bS dc):(aU dl dc).length≤1000:=by
 unfold aU;rw [A8];have:=aBa (oW dl dc) dc;have:=hd.len;omega
def vR(u:List Int):Bool:=(List.range u.length).all fun i=>i == 0 || decide (u.getD (i-1) 0<u.getD i 0)
theorem bHr{dl:Int}{sk dc:Lqq}(u:List Int)(hl:u.length≤1000):(vR u=true∧∃ i,aF Tp 0 (sub (cd Tryz.f16) bu) (gM dl sk dc u 1) (.exit 0) (gM dl sk dc u i)) ∨
  (vR u=false∧∃ i,aF Tp 0 (sub (cd Tryz.f16) bu) (gM dl sk dc u 1) .ret (cC (gM dl sk dc u i) [(4,.p dY),(5,.p (aA 4))])):=by
 rcases Nat.lt_or_ge u.length 2 with h2 | h2
 ·refine .inl ⟨?_,1,.exit (aFn (by omega)) (by simp)⟩
  unfold vR;rw [fD];intro i hi;have:=vA.1 hi;have:i=0:=by omega
  subst this;rfl
 ·have hget:∀ i,i<u.length→u[i]? = some (u.getD i 0):=fun i hi=>by rw [Bj,Ap hi];rfl
  have key:∀ d i,i+d=u.length→1≤i→(∀ j,j<i→(j == 0 || decide (u.getD (j-1) 0<u.getD j 0))=true) →
   (vR u=true∧∃ k,aF Tp 0 (sub (cd Tryz.f16) bu) (gM dl sk dc u (i:Int)) (.exit 0) (gM dl sk dc u k)) ∨
   (vR u=false∧∃ k,aF Tp 0 (sub (cd Tryz.f16) bu) (gM dl sk dc u (i:Int)) .ret (cC (gM dl sk dc u k) [(4,.p dY),(5,.p (aA 4))])):=by
   intro d
   induction d with
   | zero =>
    intro i hi h1 hj;refine .inl ⟨?_,_,.exit (aFn (by omega)) (by simp)⟩
    unfold vR;rw [fD];intro j hjr;exact hj j (by have:=vA.1 hjr;omega)
   | succ d ih =>
    intro i hi h1 hj;have g1:u[((i:Nat):Int).toNat]? = some (u.getD i 0):=by rw [aOh];exact hget i (by omega)
    have g2:u[((i:Int)-1).toNat]? = some (u.getD (i-1) 0):=by rw [show ((i:Int)-1).toNat=i-1 by omega];exact hget (i-1) (by omega)
    by_cases hc:u.getD (i-1) 0<u.getD i 0
    ·have hst:=bAi (dl:=dl) (sk:=sk) (dc:=dc) (i:=(i:Int)) (i':=((i+1:Nat):Int)) (by omega) g1 (by omega) (by show _∧_;omega) g2 (by omega) hc (by show _∧_;omega) (by omega)
     rcases ih (i+1) (by omega) (by omega) (fun j Dm=>by
      rcases Nat.lt_or_ge j i with h3 | h3
      ·exact hj j h3
      ·obtain rfl:j=i:=by omega
       rw [decide_eq_true hc,Bool.or_true]) with ⟨q1,k,q2⟩ | ⟨q1,k,q2⟩
     ·exact .inl ⟨q1,k,.step hst q2⟩
     ·exact .inr ⟨q1,k,.step hst q2⟩
    ·refine .inr ⟨?_,_,.exit (bAh (i:=(i:Int)) (by omega) g1 (by omega) (by show _∧_;omega) g2 (by omega) (by omega)) (by simp)⟩
     cases hr:vR u with
     | false=>rfl
     | true =>
      unfold vR at hr
      have:=fD.1 hr i (vA.2 (by omega))
      rw [show (i == 0)=false by simp;omega,Bool.false_or] at this
      exact absurd (of_decide_eq_true this) hc
  have:=key (u.length-1) 1 (by omega) (by omega) (fun j hj=>by
   have:j=0:=by omega
   subst this;rfl)
  exact this
def bXx(dl:Int)(dc:Lqq)(u:List Int):Int:=if u.all (ocB (aU dl dc)) then (if vR u then 0 else 4) else 1
theorem bWl{dl:Int}{sk dc:Lqq}(h:cF dl sk dc)(hl:sk.length<20)(u:List Int)(hu:u.length≤1000)(he:bXx dl (aB dc) u=0){base:Nat}:FV Tp 16 [.p (.agg (dX dl sk dc)),.p (aG u)] base (.tup [.own base,.p (aA 0)]) [(base,.row 63 (dI dl u (aB dc) (aB sk)).length ((dI dl u (aB dc) (aB sk)).flatten.map aA))]:=by
 have hd:=lF h;unfold bXx at he
 cases ha:u.all (ocB (aU dl (aB dc))) with
 | false=>rw [ha] at he;simp at he
 | true =>
  rw [ha,if_pos rfl] at he
  rcases bHr (dl:=dl) (sk:=sk) (dc:=dc) u hu with ⟨q1,i,q2⟩ | ⟨q1,i,q2⟩
  ·obtain ⟨T',h1,h2⟩:=bXw (dl:=dl) (sk:=aB sk) hd (aCa hu) (kW h.us) (aUq h) (by rw [fB];exact hl) bY.nil
   exact bUk h hd hu (fun _ _=>bCh hd) ha q2 h2
  ·rw [q1] at he;simp at he
end
section

end
section

theorem bHs{α:Type}{Q:List α→Prop}(h0:Q [])(hs:∀ l x,Q l→Q (l++[x]))(l:List α):Q l:=by
 have key:∀ r:List α,Q r.reverse:=fun r=>by
  induction r with
  | nil=>exact h0
  | cons a r ih=>rw [List.reverse_cons];exact hs _ _ ih
 have:=key l.reverse
 rwa [List.reverse_reverse] at this
def kH(L:Lqq)(t:Int):Nat:=(L.filter fun x=>decide (x.getD 2 0<t)).length
theorem aFx(L:Lqq)(x:List Int)(t:Int):kH (L++[x]) t=kH L t+if x.getD 2 0<t then 1 else 0:=by
 unfold kH;rw [sD,fK]
 congr 1
 by_cases h:x.getD 2 0<t
 ·rw [if_pos h,List.filter_cons,if_pos (decide_eq_true h)];rfl
 ·rw [if_neg h,List.filter_cons,if_neg (by rw [decide_eq_false h];simp)];rfl
theorem aCq(L:Lqq):L.Pairwise (fun a b=>a.getD 2 0≤b.getD 2 0)→iD L=L.map fun x=>[x.getD 0 0,(kH L (x.getD 2 0):Int)+1,x.getD 2 0]:=by
 refine bHs (Q:=fun L=>L.Pairwise (fun a b=>a.getD 2 0≤b.getD 2 0)→iD L=L.map fun x=>[x.getD 0 0,(kH L (x.getD 2 0):Int)+1,x.getD 2 0]) (fun _=>rfl) (fun l x ih hp => ?_) L
 obtain ⟨h1,_,h3⟩:=List.pairwise_append.1 hp;have h4:∀ a∈l,a.getD 2 0≤x.getD 2 0:=fun a ha=>h3 a ha x (by simp)
 have e:iD (l++[x])=iD l++[[x.getD 0 0,plN (iD l) (x.getD 2 0),x.getD 2 0]]:=by
  unfold iD;rw [aDk];rfl
 rw [e,ih h1,eE]
 congr 1
 ·refine yO fun y hy => ?_
  rw [aFx,if_neg (by have:=h4 y hy;omega)];rfl
 ·have hx:kH (l++[x]) (x.getD 2 0)=kH l (x.getD 2 0):=by rw [aFx,if_neg (by omega)];rfl
  show [[x.getD 0 0,plN _ (x.getD 2 0),x.getD 2 0]]=[[x.getD 0 0,(kH (l++[x]) (x.getD 2 0):Int)+1,x.getD 2 0]];rw [hx]
  congr 3
  rcases List.eq_nil_or_concat l with rfl | ⟨m,y,rfl⟩
  ·rfl
  ·rw [List.concat_eq_append] at *
   unfold plN;rw [eE,gT,List.map_nil,List.getLast?_concat];show (if y.getD 2 0=x.getD 2 0 then (kH (m++[y]) (y.getD 2 0):Int)+1 else _)=_
   by_cases hc:y.getD 2 0=x.getD 2 0
   ·rw [if_pos hc,hc]
   ·rw [if_neg hc]
    have h5:=h4 y (by simp)
    have h6:kH (m++[y]) (x.getD 2 0)=(m++[y]).length:=by
     unfold kH;rw [List.filter_eq_self.2];intro a ha;refine decide_eq_true ?_
     rcases eU.1 ha with ha | ha
     ·have:=(List.pairwise_append.1 h1).2.2 a ha y (by simp)
      omega
     ·obtain rfl:a=y:=by simpa using ha
      omega
    rw [h6];simp
section
variable {dl:Int} {oc:List Int} {sk dc:Lqq}
def bXy(a b:List Int):Prop:=(b.getD 1 0 = -1→a.getD 1 0 = -1→a.getD 0 0<b.getD 0 0)∧(b.getD 1 0 ≠ -1→a.getD 1 0 ≠ -1∧a.getD 2 0≤b.getD 2 0∧(a.getD 2 0=b.getD 2 0→a.getD 0 0<b.getD 0 0))
def inL(t:Int)(y:List Int):Bool:=decide (y.getD 1 0 ≠ -1∧y.getD 2 0<t)
theorem bHt(hs:sk.Pairwise fun a b=>a.getD 0 0<b.getD 0 0) :
  (dI dl oc dc sk).Pairwise bXy ∧
  (∀ y∈dI dl oc dc sk,y.getD 1 0 ≠ -1→y.getD 1 0=1+(((dI dl oc dc sk).filter (inL (y.getD 2 0))).length:Int)) ∧
  (∀ y∈dI dl oc dc sk,∃ s∈sk,s.getD 0 0=y.getD 0 0∧totM dl oc dc (sB s) (sT s)=(y.getD 2 0,decide (y.getD 1 0 = -1))):=by
 have P1:(eC dl oc dc sk).Pairwise fun a b=>a.getD 0 0<b.getD 0 0:=by
  unfold eC;rw [List.pairwise_map];exact (hs.sublist List.filter_sublist)
 have hO:(eJ dl oc dc sk).Pairwise fun a b=>a.getD 0 0<b.getD 0 0:=by
  unfold eJ;rw [List.pairwise_map];exact (hs.sublist List.filter_sublist)
 have s1:=oR (f:=fun x:List Int=>x.getD 2 0) (fun x y=>aIq 2 x y) (eC dl oc dc sk)
 have s2:=aIs (f:=fun x:List Int=>x.getD 2 0) (g:=fun x:List Int=>x.getD 0 0) (fun x y=>aIq 2 x y) (eC dl oc dc sk) P1
 have hpl:=aCq _ s1;have hmI:∀ x,x∈isort (ltK 2) (eC dl oc dc sk)→x∈eC dl oc dc sk:=fun x hx=>(sC _ _ x).1 hx
 have e:dI dl oc dc sk=((isort (ltK 2) (eC dl oc dc sk)).map fun x=>[x.getD 0 0,(kH (isort (ltK 2) (eC dl oc dc sk)) (x.getD 2 0):Int)+1,x.getD 2 0])++eJ dl oc dc sk:=by
  unfold dI;rw [hpl]
 generalize isort (ltK 2) (eC dl oc dc sk)=I at s1 s2 hmI e
 have o1:∀ y∈eJ dl oc dc sk,y.getD 1 0 = -1:=fun y hy=>by
  unfold eJ at hy
  obtain ⟨s,_,rfl⟩:=dH.1 hy;rfl
 refine ⟨?_,?_,?_⟩
 ·rw [e]
  refine List.pairwise_append.2 ⟨?_,?_,?_⟩
  ·rw [List.pairwise_map]
   refine s2.imp fun {a b} h => ?_
   refine ⟨fun h1=>absurd h1 ?_,fun _=>⟨?_,?_,?_⟩⟩
   ·show (kH I (b.getD 2 0):Int)+1 ≠ -1
    omega
   ·show (kH I (a.getD 2 0):Int)+1 ≠ -1
    omega
   ·show a.getD 2 0≤b.getD 2 0
    omega
   ·show a.getD 2 0=b.getD 2 0→a.getD 0 0<b.getD 0 0
    omega
  ·refine hO.imp_of_mem fun {a b} ha hb h=>⟨fun _ _=>h,fun h1=>absurd (o1 b hb) h1⟩
  ·intro a ha b hb
   obtain ⟨x,_,rfl⟩:=dH.1 ha;refine ⟨fun _ h1=>absurd h1 ?_,fun h1=>absurd (o1 b hb) h1⟩
   show (kH I (x.getD 2 0):Int)+1 ≠ -1;omega
 ·have hc:∀ t,((dI dl oc dc sk).filter (inL t)).length=kH I t:=fun t=>by
   rw [e,sD,fK];have z:(eJ dl oc dc sk).filter (inL t)=[]:=by
    rw [List.filter_eq_nil_iff];intro y hy;unfold inL;rw [o1 y hy];simp
   rw [z,List.filter_map,A8];unfold kH;rw [List.length_nil,Nat.add_zero]
   congr 1
   refine List.filter_congr fun x _ => ?_
   show decide ((kH I (x.getD 2 0):Int)+1 ≠ -1∧x.getD 2 0<t)=decide (x.getD 2 0<t)
   by_cases hx:x.getD 2 0<t
   ·rw [decide_eq_true hx,decide_eq_true ⟨by omega,hx⟩]
   ·rw [decide_eq_false hx,decide_eq_false fun h=>hx h.2]
  intro y hy h1;rw [hc];rw [e] at hy
  rcases eU.1 hy with hy | hy
  ·obtain ⟨x,_,rfl⟩:=dH.1 hy
   show (kH I (x.getD 2 0):Int)+1=1+(kH I (x.getD 2 0):Int);omega
  ·exact absurd (o1 y hy) h1
 ·intro y hy
  rw [e] at hy
  rcases eU.1 hy with hy | hy
  ·obtain ⟨x,hx,rfl⟩:=dH.1 hy
   have Pf:=hmI x hx;unfold eC at Pf
   obtain ⟨s,Bt,rfl⟩:=dH.1 Pf;obtain ⟨m1,m2⟩:=aBd.1 Bt;refine ⟨s,m1,rfl,?_⟩;have m3:(totM dl oc dc (sB s) (sT s)).2=false:=by simpa using m2
   have m4:(decide ((kH I (totM dl oc dc (sB s) (sT s)).1:Int)+1 = -1))=false:=decide_eq_false (by omega)
   show totM dl oc dc (sB s) (sT s)=((totM dl oc dc (sB s) (sT s)).1,decide ((kH I (totM dl oc dc (sB s) (sT s)).1:Int)+1 = -1));rw [m4];exact Prod.ext rfl m3
  ·unfold eJ at hy
   obtain ⟨s,Bt,rfl⟩:=dH.1 hy;obtain ⟨m1,m2⟩:=aBd.1 Bt;refine ⟨s,m1,rfl,?_⟩;show totM dl oc dc (sB s) (sT s)=(0,true);unfold totM at m2 ⊢
   split at m2
   ·rename_i h;rw [if_pos h]
   ·cases m2
def bCi(f:List Int→Int × Bool)(S:Lqq)(t:Int):Nat:=(S.filter fun j => !(f j).2 && decide ((f j).1<t)).length
theorem bHu(hs:sk.Pairwise fun a b=>a.getD 0 0<b.getD 0 0)(t:Int):((dI dl oc dc sk).filter (inL t)).length=bCi (fun s=>totM dl oc dc (sB s) (sT s)) sk t:=by
 have s1:=oR (f:=fun x:List Int=>x.getD 2 0) (fun x y=>aIq 2 x y) (eC dl oc dc sk)
 have hp:=aRr (ltK 2) (eC dl oc dc sk);unfold dI;rw [sD,fK,aCq _ s1];have z:(eJ dl oc dc sk).filter (inL t)=[]:=by
  rw [List.filter_eq_nil_iff];intro y hy;unfold eJ at hy
  obtain ⟨s,_,rfl⟩:=dH.1 hy;simp [inL]
 rw [z,List.filter_map,A8,List.length_nil,Nat.add_zero];have e1:∀ (I J:Lqq),(J.filter (inL t ∘ fun x=>[x.getD 0 0,(kH I (x.getD 2 0):Int)+1,x.getD 2 0]))=J.filter fun x=>decide (x.getD 2 0<t):=fun I J=>by
  refine List.filter_congr fun x _ => ?_
  show decide ((kH I (x.getD 2 0):Int)+1 ≠ -1∧x.getD 2 0<t)=decide (x.getD 2 0<t)
  by_cases hx:x.getD 2 0<t
  ·rw [decide_eq_true hx,decide_eq_true ⟨by omega,hx⟩]
  ·rw [decide_eq_false hx,decide_eq_false fun h=>hx h.2]
 rw [e1,(hp.filter _).length_eq];unfold eC bCi;rw [List.filter_map,A8,List.filter_filter]
 congr 1
 refine List.filter_congr fun s _ => ?_
 show (decide ((totM dl oc dc (sB s) (sT s)).1<t) && !(totM dl oc dc (sB s) (sT s)).2)=_;rw [Bool.and_comm]
def bHv(f:List Int→Int × Bool)(S:Lqq)(k:List Int):Int:=if (f k).2 then -1 else 1+(bCi f S (f k).1:Int)
theorem aMi(hs:sk.Pairwise fun a b=>a.getD 0 0<b.getD 0 0){k:List Int}(hk:k∈sk) :
  (dI dl oc dc sk).find? (fun y=>decide (y.getD 0 0=k.getD 0 0))=some [k.getD 0 0,bHv (fun s=>totM dl oc dc (sB s) (sT s)) sk k,(totM dl oc dc (sB k) (sT k)).1]:=by
 obtain ⟨_,q2,q3⟩:=bHt (dl:=dl) (oc:=oc) (dc:=dc) hs;have hn:(aL sk 0).Nodup:=by
  unfold aL;rw [List.Nodup,List.pairwise_map];exact hs.imp fun h=>by omega
 cases hf:(dI dl oc dc sk).find? (fun y=>decide (y.getD 0 0=k.getD 0 0)) with
 | none =>
  exfalso
  have hno:=aBb.1 hf;have N2:∀ y∈dI dl oc dc sk,y.getD 0 0≠k.getD 0 0:=fun y hy e=>hno y hy (decide_eq_true e)
  cases ho:(totM dl oc dc (sB k) (sT k)).2 with
  | true =>
   refine N2 [sB k,-1,0] (aAz _ ?_) rfl;unfold eJ;exact dH.2 ⟨k,aBd.2 ⟨hk,ho⟩,rfl⟩
  | false =>
   have s1:=oR (f:=fun x:List Int=>x.getD 2 0) (fun x y=>aIq 2 x y) (eC dl oc dc sk)
   have hm:[sB k,0,(totM dl oc dc (sB k) (sT k)).1]∈isort (ltK 2) (eC dl oc dc sk):=by
    rw [sC];unfold eC;exact dH.2 ⟨k,aBd.2 ⟨hk,by rw [ho];rfl⟩,rfl⟩
   have hmem:[sB k,(kH (isort (ltK 2) (eC dl oc dc sk)) (totM dl oc dc (sB k) (sT k)).1:Int)+1,(totM dl oc dc (sB k) (sT k)).1]∈dI dl oc dc sk:=by
    unfold dI;rw [aCq _ s1];exact mD _ (dH.2 ⟨_,hm,rfl⟩)
   exact N2 _ hmem rfl
 | some y =>
  have hy:=uY hf;have hb:y.getD 0 0=k.getD 0 0:=by simpa using aOj hf
  obtain ⟨y0,y1,y2,rfl⟩:=Ed (rE y hy);obtain ⟨s,h1,h2,h3⟩:=q3 _ hy;obtain rfl:s=k:=aTq hn h1 hk (h2.trans hb);have H1:totM dl oc dc (sB s) (sT s)=(y2,decide (y1 = -1)):=h3;have Aj:y0=s.getD 0 0:=hb;rw [Option.some.injEq,Aj,H1]
  congr 2
  unfold bHv;dsimp only
  by_cases Om:y1 = -1
  ·rw [if_pos (by rw [H1];exact decide_eq_true Om)];exact Om
  ·rw [if_neg (by rw [H1];simpa using Om),H1]
   have:=q2 _ hy Om;rw [bHu hs] at this
   exact this
end
end
section
end
section
variable {a b c Qx Qy bib Qz Aa Ab Ac:Int}{L:Lqq}{i Aw base:Nat}

noncomputable abbrev aCr:Code:=sub (cd Tryz.f32) [1,0,1,0,0]
def jA(L:Lqq)(bib:Int)(i:Nat)(a b c:Int):St:=⟨fr 20 [(1,(pI bib)),(4,(.ptr 0 0)),(7,(.p (fS L))),(8,(pI (L.length:Int))),(9,(pI (i:Int)))],[some (.box 63 [(pI a),(pI b),(pI c)])]⟩
theorem bWm(hl0:aF Tp 0 aCr (jA L bib 0 0 0 0) (.exit 0) (jA L bib Aw Qx Qy Qz)):FV Tp 32 [(.p (fS L)),(pI bib)] base (.p (.agg [(aA 0),(aA 0),(aA 0)])) []:=FV.fi func32 [hl0.k 6 (gI bz [0])] (gc hl0.code gn)
theorem bWn(hl0:aF Tp 0 aCr (jA L bib 0 0 0 0) .ret (jA L bib Aw Qx Qy Qz)):FV Tp 32 [(.p (fS L)),(pI bib)] base (.p (.agg [(aA Qx),(aA Qy),(aA Qz)])) []:=FV.fi func32 [hl0.k 6 (gI bz [0])] (gc hl0.code gn)
section
variable(h0:(i:Int)<(L.length:Int))(h1:L[i]? = some [Aa,Ab,Ac])(h2:uni 3 L)
include h0 h1 h2
theorem bCj(h3:Aa=bib):aC Tp 0 aCr (jA L bib i a b c) .ret (jA L bib i Aa Ab Ac):=aC.fi (gI bz [0]) [bT,.x (.agg [(aA Aa),(aA Ab),(aA Ac)]),bT] (gc (eP h3) (gfl h2 h1 (g0 h0)))
theorem bCk{i':Nat}(h3:Aa≠bib)(h4:da i)(Ai:i'=(i+1)):aC Tp 0 aCr (jA L bib i a b c) .normal (jA L bib i' a b c):=by
 subst Ai;exact aC.fi (gI bz [0]) [bT,.x (.agg [(aA Aa),(aA Ab),(aA Ac)]),bF] (gc h4 (gc (bL h3) (gfl h2 h1 (g0 h0))))
end
theorem bCl(h0:(L.length:Int)≤(i:Int)):aC Tp 0 aCr (jA L bib i a b c) (.exit 0) (jA L bib i a b c):=aC.fi (gI bz [0]) [bF] (gc (bA h0) gn)
end
section
def yH(L:Lqq)(bib:Int):List Int:=(L.find? fun y=>decide (y.getD 0 0=bib)).getD [0,0,0]
theorem aIu{a b c:Int}(L:Lqq)(bib:Int)(hu:uni 3 L)(hl:L.length≤1000)(e:yH L bib=[a,b,c]){base:Nat}:FV Tp 32 [.p (.sl L.length (L.flatten.map aA)),.p (aA bib)] base (.p (.agg [aA a,aA b,aA c])) []:=by
 have key:∀ (d i:Nat),i+d=L.length→(L.drop i).find? (fun y=>decide (y.getD 0 0=bib))=L.find? (fun y=>decide (y.getD 0 0=bib)) →
   (∃ i' y0 y1 y2,L.find? (fun y=>decide (y.getD 0 0=bib))=some [y0,y1,y2]∧aF Tp 0 (sub (cd Tryz.f32) cw) (jA L bib i 0 0 0) .ret (jA L bib i' y0 y1 y2)) ∨
   (∃ i',L.find? (fun y=>decide (y.getD 0 0=bib))=none∧aF Tp 0 (sub (cd Tryz.f32) cw) (jA L bib i 0 0 0) (.exit 0) (jA L bib i' 0 0 0)):=by
  intro d
  induction d with
  | zero =>
   intro i hi hf;refine .inr ⟨i,?_,.exit (bCl (by omega)) (by simp)⟩
   rw [← hf,List.drop_eq_nil_of_le (by omega)];rfl
  | succ d ih =>
   intro i hi hf;have hlt:i<L.length:=by omega
   obtain ⟨y0,y1,y2,hy⟩:=Ed (hu _ (eT hlt));have hx:L[i]? = some [y0,y1,y2]:=by rw [Ap hlt,hy]
   have hd:L.drop i=[y0,y1,y2]::L.drop (i+1):=by rw [aWm hlt,hy]
   rw [hd,List.find?_cons] at hf
   by_cases hb:y0=bib
   ·rw [show decide (([y0,y1,y2]:List Int).getD 0 0=bib)=true from decide_eq_true hb] at hf
    exact .inl ⟨i,y0,y1,y2,hf.symm,.exit (bCj (by omega) hx hu hb) (by simp)⟩
   ·rw [show decide (([y0,y1,y2]:List Int).getD 0 0=bib)=false from decide_eq_false hb] at hf
    have hst:=bCk (L:=L) (bib:=bib) (i:=i) (i':=i+1) (a:=0) (b:=0) (c:=0) (by omega) hx hu hb (aM (by omega)) rfl
    rcases ih (i+1) (by omega) hf with ⟨i',z0,z1,z2,q1,q2⟩ | ⟨i',q1,q2⟩
    ·exact .inl ⟨i',z0,z1,z2,q1,.step hst q2⟩
    ·exact .inr ⟨i',q1,.step hst q2⟩
 unfold yH at e
 rcases key L.length 0 (by omega) (by simp) with ⟨i',y0,y1,y2,q1,q2⟩ | ⟨i',q1,q2⟩
 ·rw [q1] at e
  obtain ⟨rfl,rfl,rfl⟩:y0=a∧y1=b∧y2=c:=by simpa using e
  exact bWn q2
 ·rw [q1] at e
  obtain ⟨rfl,rfl,rfl⟩:(0:Int)=a∧(0:Int)=b∧(0:Int)=c:=by simpa using e
  exact bWm q2
end
section
variable {P:Program}
theorem FC.close1{f base id ty n:Nat}{cs:List PV}{args Am:List AV}{y:AV}{L:Upd}(h:FC P f Am [] base y L)(ha:fzL id n cs args=Am):FC P f args [(id,.row ty n cs)] base y ((id,.dead)::L):=fun M hb hf h8=>by
 have hoM:=hb _ (jI ..);subst ha;have fre:∀ j,eG M (base+j)=true→eG (aT M id (some .dead)) (base+j)=true:=fun j hj=>by
  have hne:id≠base+j:=fun e=>by
   have:=cA hj;rw [← e] at this
   exact this _ (aZ.1 hoM)
  unfold eG at hj ⊢
  rw [cD,if_neg hne];exact hj
 exact FM.close1 hoM (h _ (fun p hp=>by cases hp) (by have:=fre 0 (by simpa using hf);simpa using this) (fun j hj=>fre j (h8 j hj)))
end
end KV
end Go.Proofs
