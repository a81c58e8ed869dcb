/- Parts of the proof of JCancelled: laws of walks, contracts of functions, plain models. No condition. -/
import Derived.RangeFuncNested
import Derived.Sort.LoopGhostIn
import Derived.Lib.OwnBridge
import Derived.Shelf.Slices.Clone
import Derived.Shelf.Small.Bits
import Derived.Shelf.Small.Wraps
import Derived.Shelf.Strconv.Itoa0
import Derived.Shelf.Sort.Plain
import Derived.Shelf.Slices.Turned
import Derived.Ground.Names2Prog
import Derived.Shelf.Slices.CompactI
import Derived.Shelf.Slices.SearchI
import Derived.Shelf.Slices.Cells
import Derived.Shelf.Slices.In.SortNone
import Derived.Ground.SlgnProg
import Derived.Shelf.SlicesE.Clone
import Derived.Test.YtgejpbmanhlkcaaGreatProg
import Derived.Test.YtgejpbmanhlkcaaGreatPJCancelledC
set_option linter.unusedVariables false
set_option linter.unusedSimpArgs false
set_option maxRecDepth 100000
namespace Go.Proofs
namespace KV
abbrev kVL (a b c d e f:Nat):List AV:=[.fn 154 [] [.ptr a 0,.ptr b 0,.ptr c 0,.ptr d 0],.fn 156 [] [.ptr e 0],.fn 157 [] [.ptr d 0,.ptr f 0],.fn 160 [] [.ptr d 0],.fn 158 [] [.ptr e 0]]
section
section
variable {dc:Lqq}
theorem aGv(h:cE dc){n:Int}(hn:1≤n∧n≤9999):cJ .i64 (abE dc) (.int .i64 n):=by
 have ha:=aOy h;refine ⟨fun e he => ?_,mW (by omega),?_⟩
 ·obtain ⟨p,hp,rfl⟩:=eQ.1 he
  obtain ⟨q1,q2,q3⟩:=ha.mem p hp;cases hx:p.2 with
  | nil=>exact absurd hx q2
  | cons x r =>
   have:x∈dc.reverse.filter fun x=>dAb x == p.1:=by rw [← q3,hx];exact iZ ..
   obtain ⟨h1,h2⟩:=aAt.1 this;have:=lJ h x (yF.1 h1);have h2:dAb x=p.1:=by simpa using h2
   exact mW (by omega)
 ·have:(abE dc).map (fun e=>iG e.1)=(abM dc).map (·.1):=by
   unfold abE;rw [rQ];rfl
  rw [this];exact ha.nd
theorem aGw(h:cE dc){n:Int}(hn:0<n):(dL (abE dc) (.int .i64 n)=true∧fD (abE dc) (.int .i64 n)=some (.sl (bY dc n).length ((bY dc n).flatten.map aA)))∨(dL (abE dc) (.int .i64 n)=false∧bY dc n=[]):=by
 have ha:=aOy h;have e1:dL (abE dc) (.int .i64 n)=(abM dc).any fun e=>e.1 == n:=by
  unfold dL abE;rw [List.any_map]
  congr 1
 have e2:fD (abE dc) (.int .i64 n)=((abM dc).find? fun e=>e.1 == n).map fun e => .sl e.2.length (e.2.flatten.map aA):=by
  unfold fD abE;generalize abM dc=L
  induction L with
  | nil=>rfl
  | cons p L ih =>
   rw [iN,List.find?_cons,List.find?_cons];have e:(decide (iG (((Value.int IntKind.i64 p.1),PV.sl p.2.length (p.2.flatten.map aA)):Value × PV).1=iG (Value.int IntKind.i64 n)))=(p.1 == n):=by
    show decide (p.1=n)=(p.1 == n);rw [Bool.eq_iff_iff];simp
   rw [e];cases p.1 == n with
   | true=>rfl
   | false=>exact ih
 rw [e1,e2];cases hf:(abM dc).find? fun e=>e.1 == n with
 | some e =>
  have h1:=uJ hf;have h2:e.1=n:=by simpa using aNl hf
  obtain ⟨q1,q2,q3⟩:=ha.mem e h1;refine .inl ⟨List.any_eq_true.2 ⟨e,h1,by simpa using h2⟩,?_⟩
  have:e.2=bY dc n:=by rw [q3,h2];rfl
  rw [Option.map_some,this]
 | none =>
  refine .inr ⟨?_,?_⟩
  ·rw [List.any_eq_false]
   intro e he;exact aGh.1 hf e he
  ·rw [← bDl h hn]
   unfold xT;rw [hf]
theorem gX(h:cE dc)(n:Int):uni 6 (bY dc n):=fun y hy=>h.ud y (eJ hy).1
theorem wE(h:cE dc)(n:Int):(bY dc n).length≤1000:=by
 have:=vX (fun x=>dAb x == n) dc.reverse
 have h2:=h.len;rw [List.length_reverse] at this
 unfold bY;omega
theorem aRv{α:Type}{p:α→Bool}{l:List α}{i:Nat}{x:α}(hi:l[i]? = some x)(hp:p x=true)(hj:∀ j y,j<i→l[j]? = some y→p y=false):l.find? p=some x:=by
 obtain ⟨h1,h2⟩:=kQ2.1 hi;rw [List.find?_eq_some_iff_getElem];exact ⟨hp,i,h1,h2,fun j h=>by
  rw [hj j l[j] h (kQ0 (by omega))];rfl⟩
end
def zero6:List Int:=[0,0,0,0,0,0]
section
variable (dl:Int) (sk dc:Lqq) (oc:List Int) (ov:PV)
def pJ(x:List Int):Prop:=∀ T,cD dl oc dc T→∃ T',cD dl oc dc T'∧pO dl sk dc ov x (cK dl oc dc x) T T'
def bLt(g:Nat)(q:List Int→Bool)(x:List Int):Prop:=∀ T,cD dl oc dc T→∃ T',cD dl oc dc T'∧bPr g dl sk dc ov x (((bY dc (dN x)).find? fun y=>q y && cK dl oc dc y).getD zero6) ((bY dc (dN x)).find? fun y=>q y && cK dl oc dc y).isSome T T'
def bLu(x:List Int):Prop:=∀ T,cD dl oc dc T→∃ T',cD dl oc dc T'∧aKh dl sk dc ov x ((tC dl oc dc x).getD zero6) (tC dl oc dc x).isSome T T'
def bLv(x:List Int):Prop:=∀ T,cD dl oc dc T→∃ T',cD dl oc dc T'∧bPs dl sk dc ov x ((aHa dl oc dc x).getD zero6) (aHa dl oc dc x).isSome T T'
def aRw(x:List Int):Prop:=∀ T,cD dl oc dc T→∃ T',cD dl oc dc T'∧bIp dl sk dc ov x (aCx dl oc dc x) T T'
def bLw(x:List Int):Prop:=∀ T,cD dl oc dc T→∃ T',cD dl oc dc T'∧yI dl sk dc ov x (qO dl oc dc x) T T'
end
section
variable {dl:Int} {sk dc:Lqq} {oc:List Int} {ov:PV}
theorem aWs(l:Lqq)(hu:uni 6 l)(hl:l.length≤1000)(hC:∀ y∈l,pJ dl sk dc oc ov y)(T:Lqb)(hT:cD dl oc dc T) :
  (∃ i T' y,l[i]? = some y∧(cT (dK y) && cK dl oc dc y)=true∧(∀ j z,j<i→l[j]? = some z→(cT (dK z) && cK dl oc dc z)=false)∧cD dl oc dc T'∧aM Tp 7 (sub (cd Tryz.f153) [1,0,1,0,0]) (cR dl sk dc ov 0 l l.length (aF T) T.length 0 0 0 0 0 0) .ret (cH (cR dl sk dc ov i l l.length (aF T') T'.length (y.getD 0 0) (y.getD 1 0) (y.getD 2 0) (y.getD 3 0) (y.getD 4 0) (y.getD 5 0)) [(7,.kb true)])) ∨
  ((l.find? fun y=>cT (dK y) && cK dl oc dc y)=none∧∃ T',cD dl oc dc T'∧aM Tp 7 (sub (cd Tryz.f153) [1,0,1,0,0]) (cR dl sk dc ov 0 l l.length (aF T) T.length 0 0 0 0 0 0) (.exit 0) (cR dl sk dc ov l.length l l.length (aF T') T'.length 0 0 0 0 0 0)):=by
 have hx:∀ i,i<l.length→∃ a b c d e f,l[i]? = some [a,b,c,d,e,f]∧l.getD i []=[a,b,c,d,e,f]∧[a,b,c,d,e,f]∈l:=fun i hi=>by
  obtain ⟨a,b,c,d,e,f,h⟩:=len6 (hu _ (iA hi));have h1:l[i]? = some [a,b,c,d,e,f]:=by rw [kQ0 hi,h]
  exact ⟨a,b,c,d,e,f,h1,by rw [kQ4,h1];rfl,kQ5 h1⟩
 rcases aM.exF (P:=Tp) (k:=7) (b:=sub (cd Tryz.f153) [1,0,1,0,0]) (e1 := .ret) (e2 := .exit 0) (fun i T=>cR dl sk dc ov i l l.length (aF T) T.length 0 0 0 0 0 0)
  (fun i T=>cH (cR dl sk dc ov i l l.length (aF T) T.length ((l.getD i []).getD 0 0) ((l.getD i []).getD 1 0) ((l.getD i []).getD 2 0) ((l.getD i []).getD 3 0) ((l.getD i []).getD 4 0) ((l.getD i []).getD 5 0)) [(7,.kb true)])
  (fun T=>cR dl sk dc ov l.length l l.length (aF T) T.length 0 0 0 0 0 0) (cD dl oc dc) (by simp) (by simp) (fun i=>cT (dK (l.getD i [])) && cK dl oc dc (l.getD i [])) l.length
  (fun i T1 hi h1 hp=>by
   obtain ⟨a,b,c,d,e,f,g1,g2,g3⟩:=hx i hi;rw [g2] at hp
   cases hq:cT b with
   | false=>exact ⟨T1,h1,aOp (by omega) g1 hu hq (aP (by omega)) rfl⟩
   | true =>
    have hp:(cT b && cK dl oc dc [a,b,c,d,e,f])=false:=hp;rw [hq,iH] at hp
    obtain ⟨T2,h2,c2⟩:=hC _ g3 T1 h1;rw [hp] at c2
    exact ⟨T2,h2,aOo (by omega) g1 hu hq c2 rfl (aP (by omega)) rfl rfl rfl⟩)
  (fun i T1 hi h1 hp=>by
   obtain ⟨a,b,c,d,e,f,g1,g2,g3⟩:=hx i hi;rw [g2] at hp ⊢
   rw [kQ7] at hp
   obtain ⟨T2,h2,c2⟩:=hC _ g3 T1 h1;rw [hp.2] at c2
   exact ⟨T2,h2,aOn (by omega) g1 hu hp.1 c2 rfl rfl rfl⟩)
  (fun T1 h1=>aOq (by omega)) hT with ⟨i,T',h1,h2,h3,h4,h5⟩ | ⟨h1,T',h2,h3⟩
 ·obtain ⟨a,b,c,d,e,f,g1,g2,g3⟩:=hx i h1
  rw [g2] at h2 h5
  refine .inl ⟨i,T',_,g1,h2,fun j z hj hz => ?_,h4,h5⟩
  have:=h3 j hj;rw [kQ4,hz] at this
  exact this
 ·refine .inr ⟨?_,T',h2,h3⟩
  rw [aGh];intro y hy;obtain ⟨i,hi,rfl⟩:=List.mem_iff_getElem.1 hy;have:=h1 i hi;rw [kQ4,kQ0 hi] at this
  simpa using this
theorem bIn(hd:cE dc){x:List Int}(hx:x∈dc)(hC:∀ y∈bY dc (dN x),pJ dl sk dc oc ov y):bLt dl sk dc oc ov 155 (fun y=>cT (dK y)) x:=fun T hT=>by
 have hn:=fO hd hx;have hk:=aGv hd hn;have hL:=aWs (bY dc (dN x)) (gX hd _) (wE hd _) hC T hT;obtain ⟨x0,x1,x2,x3,x4,x5,rfl⟩:=len6 (hd.ud x hx)
 rcases aGw hd (n:=dN [x0,x1,x2,x3,x4,x5]) (by omega) with ⟨h1,h2⟩ | ⟨h1,h2⟩
 ·rcases hL with ⟨i,T',y,q1,q2,q3,q4,q5⟩ | ⟨q1,T',q2,q3⟩
  ·have hf:=aRv (p:=fun y=>cT (dK y) && cK dl oc dc y) q1 q2 q3
   rw [hf];obtain ⟨a,b,c,d,e,f,rfl⟩:=len6 (gX hd _ _ (kQ5 q1));exact ⟨T',q4,bIu hk h1 h2 q5⟩
  ·rw [q1]
   exact ⟨T',q2,bIt hk h1 h2 q3⟩
 ·rw [h2] at hL ⊢
  rcases hL with ⟨i,T',y,q1,q2,q3,q4,q5⟩ | ⟨q1,T',q2,q3⟩
  ·simp at q1
  ·exact ⟨T',q2,bIv hk h1 q3⟩
theorem aWt(l:Lqq)(hu:uni 6 l)(hl:l.length≤1000)(hC:∀ y∈l,pJ dl sk dc oc ov y)(T:Lqb)(hT:cD dl oc dc T) :
  (∃ i T' y,l[i]? = some y∧(dK y == 6 && cK dl oc dc y)=true∧(∀ j z,j<i→l[j]? = some z→(dK z == 6 && cK dl oc dc z)=false)∧cD dl oc dc T'∧aM Tp 7 (sub (cd Tryz.f153) [1,0,1,0,0]) (cS dl sk dc ov 0 l l.length (aF T) T.length 0 0 0 0 0 0) .ret (cH (cS dl sk dc ov i l l.length (aF T') T'.length (y.getD 0 0) (y.getD 1 0) (y.getD 2 0) (y.getD 3 0) (y.getD 4 0) (y.getD 5 0)) [(7,.kb true)])) ∨
  ((l.find? fun y=>dK y == 6 && cK dl oc dc y)=none∧∃ T',cD dl oc dc T'∧aM Tp 7 (sub (cd Tryz.f153) [1,0,1,0,0]) (cS dl sk dc ov 0 l l.length (aF T) T.length 0 0 0 0 0 0) (.exit 0) (cS dl sk dc ov l.length l l.length (aF T') T'.length 0 0 0 0 0 0)):=by
 have hx:∀ i,i<l.length→∃ a b c d e f,l[i]? = some [a,b,c,d,e,f]∧l.getD i []=[a,b,c,d,e,f]∧[a,b,c,d,e,f]∈l:=fun i hi=>by
  obtain ⟨a,b,c,d,e,f,h⟩:=len6 (hu _ (iA hi));have h1:l[i]? = some [a,b,c,d,e,f]:=by rw [kQ0 hi,h]
  exact ⟨a,b,c,d,e,f,h1,by rw [kQ4,h1];rfl,kQ5 h1⟩
 rcases aM.exF (P:=Tp) (k:=7) (b:=sub (cd Tryz.f153) [1,0,1,0,0]) (e1 := .ret) (e2 := .exit 0) (fun i T=>cS dl sk dc ov i l l.length (aF T) T.length 0 0 0 0 0 0)
  (fun i T=>cH (cS dl sk dc ov i l l.length (aF T) T.length ((l.getD i []).getD 0 0) ((l.getD i []).getD 1 0) ((l.getD i []).getD 2 0) ((l.getD i []).getD 3 0) ((l.getD i []).getD 4 0) ((l.getD i []).getD 5 0)) [(7,.kb true)])
  (fun T=>cS dl sk dc ov l.length l l.length (aF T) T.length 0 0 0 0 0 0) (cD dl oc dc) (by simp) (by simp) (fun i=>dK (l.getD i []) == 6 && cK dl oc dc (l.getD i [])) l.length
  (fun i T1 hi h1 hp=>by
   obtain ⟨a,b,c,d,e,f,g1,g2,g3⟩:=hx i hi;rw [g2] at hp
   cases hq:(b == 6) with
   | false=>exact ⟨T1,h1,aOt (by omega) g1 hu hq (aP (by omega)) rfl⟩
   | true =>
    have hp:((b == 6) && cK dl oc dc [a,b,c,d,e,f])=false:=hp;rw [hq,iH] at hp
    obtain ⟨T2,h2,c2⟩:=hC _ g3 T1 h1;rw [hp] at c2
    exact ⟨T2,h2,aOs (by omega) g1 hu hq c2 rfl (aP (by omega)) rfl rfl rfl⟩)
  (fun i T1 hi h1 hp=>by
   obtain ⟨a,b,c,d,e,f,g1,g2,g3⟩:=hx i hi;rw [g2] at hp ⊢
   rw [kQ7] at hp
   obtain ⟨T2,h2,c2⟩:=hC _ g3 T1 h1;rw [hp.2] at c2
   exact ⟨T2,h2,aOr (by omega) g1 hu hp.1 c2 rfl rfl rfl⟩)
  (fun T1 h1=>aOu (by omega)) hT with ⟨i,T',h1,h2,h3,h4,h5⟩ | ⟨h1,T',h2,h3⟩
 ·obtain ⟨a,b,c,d,e,f,g1,g2,g3⟩:=hx i h1
  rw [g2] at h2 h5
  refine .inl ⟨i,T',_,g1,h2,fun j z hj hz => ?_,h4,h5⟩
  have:=h3 j hj;rw [kQ4,hz] at this
  exact this
 ·refine .inr ⟨?_,T',h2,h3⟩
  rw [aGh];intro y hy;obtain ⟨i,hi,rfl⟩:=List.mem_iff_getElem.1 hy;have:=h1 i hi;rw [kQ4,kQ0 hi] at this
  simpa using this
theorem bIo(hd:cE dc){x:List Int}(hx:x∈dc)(hC:∀ y∈bY dc (dN x),pJ dl sk dc oc ov y):bLt dl sk dc oc ov 159 (fun y=>dK y == 6) x:=fun T hT=>by
 have hn:=fO hd hx;have hk:=aGv hd hn;have hL:=aWt (bY dc (dN x)) (gX hd _) (wE hd _) hC T hT;obtain ⟨x0,x1,x2,x3,x4,x5,rfl⟩:=len6 (hd.ud x hx)
 rcases aGw hd (n:=dN [x0,x1,x2,x3,x4,x5]) (by omega) with ⟨h1,h2⟩ | ⟨h1,h2⟩
 ·rcases hL with ⟨i,T',y,q1,q2,q3,q4,q5⟩ | ⟨q1,T',q2,q3⟩
  ·have hf:=aRv (p:=fun y=>dK y == 6 && cK dl oc dc y) q1 q2 q3
   rw [hf];obtain ⟨a,b,c,d,e,f,rfl⟩:=len6 (gX hd _ _ (kQ5 q1));exact ⟨T',q4,bIx hk h1 h2 q5⟩
  ·rw [q1]
   exact ⟨T',q2,bIw hk h1 h2 q3⟩
 ·rw [h2] at hL ⊢
  rcases hL with ⟨i,T',y,q1,q2,q3,q4,q5⟩ | ⟨q1,T',q2,q3⟩
  ·simp at q1
  ·exact ⟨T',q2,bIy hk h1 q3⟩

theorem bDd(hd:cE dc){x:List Int}(hx:x∈dc)(hC:∀ y∈bY dc (dN x),pJ dl sk dc oc ov y):bLu dl sk dc oc ov x:=fun T hT=>by
 obtain ⟨T',h1,h2⟩:=bIn hd hx hC T hT;rw [← aBj hd hx] at h2
 obtain ⟨x0,x1,x2,x3,x4,x5,rfl⟩:=len6 (hd.ud x hx);have hz:∀ z,tC dl oc dc [x0,x1,x2,x3,x4,x5]=some z→z.length=6:=fun z hz=>by
  rw [aBj hd hx] at hz
  exact gX hd _ z (uJ hz)
 cases hr:tC dl oc dc [x0,x1,x2,x3,x4,x5] with
 | none =>
  rw [hr] at h2
  exact ⟨T',h1,bDg (z0:=0) (z1:=0) (z2:=0) (z3:=0) (z4:=0) (z5:=0) h2⟩
 | some z =>
  obtain ⟨a,b,c,d,e,f,rfl⟩:=len6 (hz z hr);rw [hr] at h2
  exact ⟨T',h1,bDg h2⟩
theorem bPp(hd:cE dc){x:List Int}(hx:x∈dc)(hC:∀ y∈bY dc (dN x),pJ dl sk dc oc ov y):bLv dl sk dc oc ov x:=fun T hT=>by
 obtain ⟨T',h1,h2⟩:=bIo hd hx hC T hT;rw [← aBk hd hx] at h2
 obtain ⟨x0,x1,x2,x3,x4,x5,rfl⟩:=len6 (hd.ud x hx);have hz:∀ z,aHa dl oc dc [x0,x1,x2,x3,x4,x5]=some z→z.length=6:=fun z hz=>by
  rw [aBk hd hx] at hz
  exact gX hd _ z (uJ hz)
 cases hr:aHa dl oc dc [x0,x1,x2,x3,x4,x5] with
 | none =>
  rw [hr] at h2
  exact ⟨T',h1,bDh (z0:=0) (z1:=0) (z2:=0) (z3:=0) (z4:=0) (z5:=0) h2⟩
 | some z =>
  obtain ⟨a,b,c,d,e,f,rfl⟩:=len6 (hz z hr);rw [hr] at h2
  exact ⟨T',h1,bDh h2⟩
theorem bDe(hd:cE dc)(hov:∀ n,qN ov n (oc.contains n)){x:List Int}(hx:x∈dc)(hC:∀ y∈bY dc (dN x),pJ dl sk dc oc ov y):aRw dl sk dc oc ov x:=fun T hT=>by
 obtain ⟨T',h1,h2⟩:=bDd hd hx hC T hT;rw [bQi hd hx];obtain ⟨x0,x1,x2,x3,x4,x5,rfl⟩:=len6 (hd.ud x hx);have hz:∀ z,tC dl oc dc [x0,x1,x2,x3,x4,x5]=some z→z.length=6:=fun z hz=>by
  rw [aBj hd hx] at hz
  exact gX hd _ z (uJ hz)
 cases hr:tC dl oc dc [x0,x1,x2,x3,x4,x5] with
 | none =>
  rw [hr] at h2
  exact ⟨T',h1,bQd (z0:=0) (z1:=0) (z2:=0) (z3:=0) (z4:=0) (z5:=0) h2 rfl (hov _)⟩
 | some z =>
  obtain ⟨a,b,c,d,e,f,rfl⟩:=len6 (hz z hr);rw [hr] at h2
  exact ⟨T',h1,bQc h2 rfl rfl⟩
abbrev oV(dl:Int)(oc:List Int)(dc:Lqq)(x y:List Int):Bool:=sC x y && cK dl oc dc y && (dK y == 5 || aCx dl oc dc y)
theorem bDf{x0 x1 x2 x3 x4 x5:Int}(hd:cE dc)(l:Lqq)(hu:uni 6 l)(hl:l.length≤1000)(hC:∀ y∈l,pJ dl sk dc oc ov y)(hU:∀ y∈l,aRw dl sk dc oc ov y)(T:Lqb)(hT:cD dl oc dc T)(is:Bool) :
  ∃ T',cD dl oc dc T'∧aM Tp 7 (sub (cd Tryz.f154) [1,1,1,0,1,0,0]) (bV dl sk dc ov x0 x1 x2 x3 x4 x5 is 0 l l.length (aF T) T.length) (.exit 0) (bV dl sk dc ov x0 x1 x2 x3 x4 x5 (is && !(l.any (oV dl oc dc [x0,x1,x2,x3,x4,x5]))) l.length l l.length (aF T') T'.length):=by
 have hx:∀ i,i<l.length→∃ a b c d e f,l[i]? = some [a,b,c,d,e,f]∧[a,b,c,d,e,f]∈l:=fun i hi=>by
  obtain ⟨a,b,c,d,e,f,h⟩:=len6 (hu _ (iA hi));have h1:l[i]? = some [a,b,c,d,e,f]:=by rw [kQ0 hi,h]
  exact ⟨a,b,c,d,e,f,h1,kQ5 h1⟩
 have et:∀ i y,l[i]? = some y→(l.take (i+1)).any (oV dl oc dc [x0,x1,x2,x3,x4,x5])=((l.take i).any (oV dl oc dc [x0,x1,x2,x3,x4,x5]) || oV dl oc dc [x0,x1,x2,x3,x4,x5] y):=fun i y h=>by
  rw [List.take_add_one,h,List.any_append];simp
 obtain ⟨acc, ⟨h1,h2⟩,h3⟩:=aM.ex (P:=Tp) (k:=7) (b:=sub (cd Tryz.f154) [1,1,1,0,1,0,0]) (e := .exit 0) (fun i (a:Bool × Lqb)=>bV dl sk dc ov x0 x1 x2 x3 x4 x5 a.1 i l l.length (aF a.2) a.2.length)
  (fun a=>bV dl sk dc ov x0 x1 x2 x3 x4 x5 a.1 l.length l l.length (aF a.2) a.2.length) (fun i a=>cD dl oc dc a.2∧a.1=(is && !((l.take i).any (oV dl oc dc [x0,x1,x2,x3,x4,x5])))) (by simp) l.length
  (fun i acc hi hI=>by
   obtain ⟨b,T1⟩:=acc;obtain ⟨h1,h2⟩:=hI;dsimp only at h1 h2
   obtain ⟨a,k,c,d,e,f,g1,g3⟩:=hx i hi;rw [et i _ g1];cases hb:b with
   | false =>
    rw [hb] at h2
    have hI:∀ q:Bool,false=(is && !((l.take i).any (oV dl oc dc [x0,x1,x2,x3,x4,x5]) || q)):=fun q=>by
     revert h2;cases is <;> cases (l.take i).any (oV dl oc dc [x0,x1,x2,x3,x4,x5]) <;> cases q <;> simp
    by_cases h5:k=5
    ·exact ⟨(false,T1),⟨h1,hI _⟩,aWx (by omega) g1 hu h5 rfl (aP (by omega)) rfl⟩
    ·by_cases h7:k=7
     ·exact ⟨(false,T1),⟨h1,hI _⟩,aXc (by omega) g1 hu h5 h7 rfl (aP (by omega)) rfl⟩
     ·exact ⟨(false,T1),⟨h1,hI _⟩,aXe (by omega) g1 hu h5 h7 rfl (aP (by omega)) rfl⟩
   | true =>
    rw [hb] at h2
    have hI:∀ q:Bool,(!q)=(is && !((l.take i).any (oV dl oc dc [x0,x1,x2,x3,x4,x5]) || q)):=fun q=>by
     revert h2;cases is <;> cases (l.take i).any (oV dl oc dc [x0,x1,x2,x3,x4,x5]) <;> cases q <;> simp
    have hIt:∀ q:Bool,q=true→false=(is && !((l.take i).any (oV dl oc dc [x0,x1,x2,x3,x4,x5]) || q)):=fun q hq=>by
     rw [← hI,hq];rfl
    have hIf:∀ q:Bool,q=false→true=(is && !((l.take i).any (oV dl oc dc [x0,x1,x2,x3,x4,x5]) || q)):=fun q hq=>by
     rw [← hI,hq];rfl
    obtain ⟨T2,q1,q2⟩:=hC _ g3 T1 h1
    by_cases h5:k=5
    ·cases hc:cK dl oc dc [a,k,c,d,e,f] with
     | true =>
      rw [hc] at q2
      exact ⟨(false,T2),⟨q1,hIt _ (by subst h5;simp [oV,sC,hc])⟩,aWv (by omega) g1 hu h5 rfl q2 rfl (aP (by omega)) rfl rfl rfl⟩
     | false =>
      rw [hc] at q2
      exact ⟨(true,T2),⟨q1,hIf _ (by simp [oV,hc])⟩,aWw (by omega) g1 hu h5 rfl q2 rfl (aP (by omega)) rfl rfl rfl⟩
    ·by_cases h7:k=7
     ·cases hr:cT x1 with
      | true=>exact ⟨(true,T1),⟨h1,hIf _ (by simp [oV,sC,hr,h5])⟩,aXb (by omega) g1 hu h5 h7 rfl hr (aP (by omega)) rfl⟩
      | false =>
       cases hc:cK dl oc dc [a,k,c,d,e,f] with
       | true =>
        rw [hc] at q2
        obtain ⟨T3,q3,q4⟩:=hU _ g3 T2 q1;cases hu2:aCx dl oc dc [a,k,c,d,e,f] with
        | true =>
         rw [hu2] at q4
         exact ⟨(false,T3),⟨q3,hIt _ (by subst h7;simp [oV,sC,hc,hr,hu2])⟩,aWy (by omega) g1 hu h5 h7 rfl hr q2 rfl q4 rfl (aP (by omega)) rfl rfl rfl⟩
        | false =>
         rw [hu2] at q4
         exact ⟨(true,T3),⟨q3,hIf _ (by simp [oV,sC,hu2,h5])⟩,aWz (by omega) g1 hu h5 h7 rfl hr q2 rfl q4 rfl (aP (by omega)) rfl rfl rfl⟩
       | false =>
        rw [hc] at q2
        exact ⟨(true,T2),⟨q1,hIf _ (by simp [oV,hc])⟩,aXa (by omega) g1 hu h5 h7 rfl hr q2 rfl (aP (by omega)) rfl rfl rfl⟩
     ·exact ⟨(true,T1),⟨h1,hIf _ (by simp [oV,sC,h5,h7])⟩,aXd (by omega) g1 hu h5 h7 rfl (aP (by omega)) rfl⟩)
  (fun acc hI=>aOv (by omega)) (acc:=(is,T)) ⟨hT,by simp⟩
 obtain ⟨b,T1⟩:=acc;dsimp only at h1 h2 h3
 rw [List.take_length] at h2
 rw [h2] at h3
 exact ⟨T1,h1,h3⟩
theorem bPq(hd:cE dc){x:List Int}(hx:x∈dc)(hC:∀ y∈bY dc (dN x),pJ dl sk dc oc ov y)(hU:∀ y∈bY dc (dN x),aRw dl sk dc oc ov y):pJ dl sk dc oc ov x:=fun T hT=>by
 have hn:=fO hd hx;have hk:=aGv hd hn;obtain ⟨x0,x1,x2,x3,x4,x5,rfl⟩:=len6 (hd.ud x hx);obtain ⟨T',h1,hL⟩:=bDf (x0:=x0) (x1:=x1) (x2:=x2) (x3:=x3) (x4:=x4) (x5:=x5) hd (bY dc (dN [x0,x1,x2,x3,x4,x5])) (gX hd _) (wE hd _) hC hU T hT (!kO dl [x0,x1,x2,x3,x4,x5]);have hc:(!kO dl [x0,x1,x2,x3,x4,x5] && !((bY dc (dN [x0,x1,x2,x3,x4,x5])).any (oV dl oc dc [x0,x1,x2,x3,x4,x5])))=cK dl oc dc [x0,x1,x2,x3,x4,x5]:=(bQh hd hx).symm;rw [hc] at hL
 cases hh:dL (aF T) (.int .i64 (dN [x0,x1,x2,x3,x4,x5])) with
 | true=>exact ⟨T,hT,bPx (hT.keys hd hn) hh (hT.look hd hx hh)⟩
 | false =>
  cases hh2:dL (aF T') (.int .i64 (dN [x0,x1,x2,x3,x4,x5])) with
  | true =>
   refine ⟨T',h1,?_⟩
   rcases aGw hd (n:=dN [x0,x1,x2,x3,x4,x5]) (by omega) with ⟨a1,a2⟩ | ⟨a1,a2⟩
   ·have:=bPy (x0:=x0) (hT.keys hd hn) hh hk a1 a2 hL (h1.keys hd hn) hh2
    rw [show nX (aF T') (.int .i64 x0) (blP (cK dl oc dc [x0,x1,x2,x3,x4,x5]))=aF T' from h1.again hd hx] at this
    exact this
   ·rw [a2] at hL
    have:=bQa (x0:=x0) (hT.keys hd hn) hh hk a1 hL (h1.keys hd hn) hh2;rw [show nX (aF T') (.int .i64 x0) (blP (cK dl oc dc [x0,x1,x2,x3,x4,x5]))=aF T' from h1.again hd hx] at this
    exact this
  | false =>
   refine ⟨T'++[(x0,cK dl oc dc [x0,x1,x2,x3,x4,x5])],h1.put hx hh2,?_⟩;have e1:(T'++[(x0,cK dl oc dc [x0,x1,x2,x3,x4,x5])]).length=T'.length+1:=by simp
   unfold pO cW;rw [aXf,e1]
   rcases aGw hd (n:=dN [x0,x1,x2,x3,x4,x5]) (by omega) with ⟨a1,a2⟩ | ⟨a1,a2⟩
   ·exact bPz (hT.keys hd hn) hh hk a1 a2 hL (h1.keys hd hn) hh2
   ·rw [a2] at hL
    exact bQb (hT.keys hd hn) hh hk a1 hL (h1.keys hd hn) hh2
theorem qM(hd:cE dc){x y:List Int}(hx:x∈dc)(hy:y∈bY dc (dN x)):y∈dc∧dN x<dN y:=by
 obtain ⟨h1,h2⟩:=eJ hy;exact ⟨h1,bDj hd h1 h2 (fO hd hx).1⟩
theorem aGx(hd:cE dc)(hov:∀ n,qN ov n (oc.contains n)):∀ (n:Nat) (x:List Int),x∈dc→10000-dN x≤(n:Int)→pJ dl sk dc oc ov x
 | 0,x,hx,h=>by have:=fO hd hx;omega
 | n+1,x,hx,h=>bPq hd hx (fun y hy=>by
   obtain ⟨h1,h2⟩:=qM hd hx hy;exact aGx hd hov n y h1 (by omega)) (fun y hy=>by
   obtain ⟨h1,h2⟩:=qM hd hx hy;exact bDe hd hov h1 fun z hz=>by
    obtain ⟨h3,h4⟩:=qM hd h1 hz;exact aGx hd hov n z h3 (by omega))
theorem aWu(hd:cE dc)(hov:∀ n,qN ov n (oc.contains n)){x:List Int}(hx:x∈dc):pJ dl sk dc oc ov x:=aGx hd hov 10000 x hx (by have:=fO hd hx;omega)
theorem bUh(hd:cE dc)(hov:∀ n,qN ov n (oc.contains n)){x:List Int}(hx:x∈dc):bLu dl sk dc oc ov x:=bDd hd hx fun y hy=>aWu hd hov (eJ hy).1
theorem bUi(hd:cE dc)(hov:∀ n,qN ov n (oc.contains n)){x:List Int}(hx:x∈dc):bLv dl sk dc oc ov x:=bPp hd hx fun y hy=>aWu hd hov (eJ hy).1
theorem bUj(hd:cE dc)(hov:∀ n,qN ov n (oc.contains n)){x:List Int}(hx:x∈dc):aRw dl sk dc oc ov x:=bDe hd hov hx fun y hy=>aWu hd hov (eJ hy).1
theorem aRx(hd:cE dc)(hov:∀ n,qN ov n (oc.contains n)):∀ (n:Nat) (x:List Int),x∈dc→10000-dN x≤(n:Int)→bLw dl sk dc oc ov x
 | 0,x,hx,h=>by have:=fO hd hx;omega
 | n+1,x,hx,h=>fun T hT=>by
  obtain ⟨T',h1,h2⟩:=bUi (dl:=dl) (sk:=sk) hd hov hx T hT;rw [aSa hd hx];cases hr:aHa dl oc dc x with
  | none =>
   rw [hr] at h2
   obtain ⟨x0,x1,x2,x3,x4,x5,rfl⟩:=len6 (hd.ud x hx);exact ⟨T',h1,bQf (z0:=0) (z1:=0) (z2:=0) (z3:=0) (z4:=0) (z5:=0) h2 rfl⟩
  | some z =>
   have hz:z∈bY dc (dN x):=by
    rw [aBk hd hx] at hr
    exact uJ hr
   obtain ⟨a1,a2⟩:=qM hd hx hz;obtain ⟨T2,h3,h4⟩:=aRx hd hov n z a1 (by omega) T' h1
   rw [hr] at h2
   obtain ⟨x0,x1,x2,x3,x4,x5,rfl⟩:=len6 (hd.ud x hx);obtain ⟨a,b,c,d,e,f,rfl⟩:=len6 (hd.ud z a1);exact ⟨T2,h3,bQe h2 rfl h4⟩
theorem bUk(hd:cE dc)(hov:∀ n,qN ov n (oc.contains n)){x:List Int}(hx:x∈dc):bLw dl sk dc oc ov x:=aRx hd hov 10000 x hx (by have:=fO hd hx;omega)
theorem yS(n:Int):qN bX n (([]:List Int).contains n):=fun base=>FV.argwk (mU [] n (by simp)) (by kernel_rfl)
theorem aBh{l:List Int}(hl:l.length≤1000)(n:Int):qN (aH l) n (l.contains n):=fun base=>mU l n hl
end
end
section
variable {P:Program} {T:TT} {E:Env} {C C0:Cx} {M M0 M1:Mem} {w w0:World}

def bkN(all:List Nat)(j:Nat):Option Nat:=all[j]?
def uY(all0:List Nat):List Nat→Mem→Option Upd
 | i::r,some o::m=>match mpO (bkN all0) o with
  | some o'=>(uY all0 r m).map ((i,o') :: ·)
  | none=>none
 | [],[]=>some []
 | _,_=>none

theorem aEr{all0:List Nat}:∀ {ids:List Nat} {m:Mem} {L:Upd},uY all0 ids m=some L→ids.Nodup →
  m.length=ids.length ∧
  ∀ (N:Mem),(∀ (p i:Nat) (o':AO),ids[p]? = some i→(bQ (upds N L) i=some o'↔∃ o,m[p]? = some (some o)∧mpO (bkN all0) o=some o')) ∧
   ∀ j,j∉ids→bQ (upds N L) j=bQ N j
 | [],[],L,h,_=>by
  unfold uY at h;cases h
  refine ⟨rfl,fun N=>⟨fun p i o' hp=>by simp at hp,fun _ _=>rfl⟩⟩
 | i::r,some o::m,L,h,hd=>by
  unfold uY at h
  split at h
  ·rename_i o' ho
   simp only [kN] at h
   obtain ⟨L',hL',rfl⟩:=h;obtain ⟨hd1,hd2⟩:=List.nodup_cons.1 hd;obtain ⟨q1,q2⟩:=aEr (ids:=r) hL' hd2;refine ⟨by simpa using q1,fun N => ?_⟩
   obtain ⟨r1,r4⟩:=q2 (aY N i (some o'));refine ⟨fun p j o2 hp => ?_,fun j hj => ?_⟩
   ·cases p with
    | zero =>
     simp at hp;subst hp
     simp only [upds];rw [r4 i hd1,cY,if_pos rfl];constructor
     ·intro h;cases h;exact ⟨o,rfl,ho⟩
     ·rintro ⟨o3,h3,h4⟩
      simp at h3;subst h3
      rw [ho] at h4;exact h4
    | succ p =>
     simp only [upds];rw [List.getElem?_cons_succ] at hp
     rw [r1 p j o2 hp];rfl
   ·simp only [upds]
    rw [r4 j (fun e=>hj (kQ6 _ e)),cY,if_neg (fun e=>hj (by simp [e]))]
  ·cases h
 | [],_::_,L,h,_=>by unfold uY at h;cases h
 | _::_,[],L,h,_=>by unfold uY at h;cases h
 | _::_,none::_,L,h,_=>by unfold uY at h;cases h

theorem aBs{all0:List Nat}:∀ {ids:List Nat} {m:Mem} {L:Upd},uY all0 ids m=some L→∀ (p:Nat) (o1:AO),m[p]? = some (some o1)→∃ o',mpO (bkN all0) o1=some o'
 | [],[],L,h,p,o1,hp=>by simp at hp
 | i::r,some o::m,L,h,p,o1,hp=>by
  unfold uY at h
  split at h
  ·rename_i hx
   simp only [kN] at h
   obtain ⟨L',hL',_⟩:=h;cases p with
   | zero=>simp at hp;subst hp;exact ⟨_,hx⟩
   | succ p=>exact aBs hL' p o1 (by simpa using hp)
  ·cases h
 | [],_::_,L,h,_,_,_=>by unfold uY at h;cases h
 | _::_,[],L,h,_,_,_=>by unfold uY at h;cases h
 | _::_,none::_,L,h,_,_,_=>by unfold uY at h;cases h

def Cx.backN(C C1:Cx)(all:List Nat):Cx :=
 {ι:=fun j=>match idx all j 0 with | some p=>C1.ι p | none=>C.ι j
  κ:=fun j=>match idx all j 0 with | some p=>C1.κ p | none=>C.κ j
  F:=C1.F }

theorem bDy{ids news:List Nat}{r y:AV}{L:Upd}{C1:Cx}{w':World}{u:Value}(hd:distinct 0 ids=true)(hda:distinct 0 (ids++news)=true)(hb:∀ i∈news,eV M i=true)
  (hs:rnM 0 ids (ids.map (at? M))=some M0) (hlv:∀ i∈ids,eG M i=true) (hU:uY (ids++news) (ids++news) M1=some L) (hy:mpA (bkN (ids++news)) r=some y)
  (hM:aR P C M w) (hF:Fr (C.rn 0 ids) M0 w C1 M1 w') (hM1:aR P C1 M1 w') (hr:Rep C1 M1 w' r u):Fr C M w (C.backN C1 (ids++news)) (upds M L) w'∧aR P (C.backN C1 (ids++news)) (upds M L) w'∧Rep (C.backN C1 (ids++news)) (upds M L) w' y u:=by
 obtain ⟨_,hnd⟩:=iE hd;obtain ⟨_,hna⟩:=iE hda;obtain ⟨hM0,hmp,hsrc⟩:=pR (k:=0) hM hd hs;have hlen:M0.length=ids.length:=by have:=(zF hs).1;simpa using this
 generalize hall:ids++news=all at *
 obtain ⟨hl1,hup⟩:=aEr hU hna;obtain ⟨u1,u4⟩:=hup M;have hL:=hM0.le hF;have inA:∀ (p i:Nat),ids[p]? = some i→all[p]? = some i:=fun p i h=>by
  rw [← hall,aAr (kQ2.1 h).1];exact h
 have memA:∀ i,i∈all↔i∈ids∨i∈news:=fun i=>by rw [← hall];simp
 have newF:∀ (p i:Nat),all[p]? = some i→i∉ids→eV M i=true:=fun p i h hn=>by
  rcases (memA i).1 (kQ5 h) with h | h
  ·exact absurd h hn
  ·exact hb i h
 have oldP:∀ (p i:Nat),all[p]? = some i→i∈ids→ids[p]? = some i:=fun p i h hn=>by
  obtain ⟨q,hq,he⟩:=List.mem_iff_getElem.1 hn;have h2:ids[q]? = some i:=by rw [kQ0 hq,he]
  have e1:=oP hna 0 h;have e2:=oP hna 0 (inA q i h2);rw [e1] at e2
  have:p=q:=by simpa using e2
  rw [this];exact h2
 have rnp:∀ p i,ids[p]? = some i→rnI 0 ids i=some p:=fun p i h=>by
  have:=oP hnd 0 h;unfold rnI;rw [show Nat.blt i 0=false from rfl,this,gE]
 have shown0:∀ p i,ids[p]? = some i→∃ o o0,M[i]? = some (some o)∧o.live=true∧M0[p]? = some (some o0)∧o0.live=true∧(C.rn 0 ids).ι p=C.ι i∧(C.rn 0 ids).κ p=C.κ i:=fun p i hp=>by
  obtain ⟨o,h1,h2⟩:=dI (hlv i (kQ5 hp));obtain ⟨o0,h3,h4⟩:=hmp.fw _ _ _ (rnp p i hp) h1;exact ⟨o,o0,h1,h2,h3,by rw [bI h4];exact h2,hmp.at_ _ _ (rnp p i hp)⟩
 have sh_of:∀ (p:Nat) (o0:AO),M0[p]? = some (some o0)→∃ i o,ids[p]? = some i∧M[i]? = some (some o)∧o.live=true∧o0.live=true∧(C.rn 0 ids).ι p=C.ι i:=fun p o0 hp=>by
  obtain ⟨hl,_⟩:=kQ2.1 hp;have hp':ids[p]? = some ids[p]:=kQ0 (by omega)
  obtain ⟨o,o1,h1,h2,h3,h4,h5,_⟩:=shown0 p _ hp';rw [hp] at h3;cases h3
  exact ⟨_,o,hp',h1,h2,h4,h5⟩
 have apart:∀ (j:Nat) (o:AO) (b:Nat),j∉ids→M[j]? = some (some o)→o.live=true→C.ι j=some b→w'.heap[b]? = w.heap[b]? ∧ ¬ C1.F b∧∀ (p:Nat) (o1:AO),M1[p]? = some (some o1)→o1.live=true→C1.ι p≠some b:=fun j o b hj h1 h2 h3=>by
  have hb1:=hM.lt j o b h1 h2 h3;have no0:∀ (p:Nat) (o0:AO),M0[p]? = some (some o0)→o0.live=true→(C.rn 0 ids).ι p≠some b:=fun p o0 hp _ he=>by
   obtain ⟨i,o2,q1,q2,q3,_,q4⟩:=sh_of p o0 hp;rw [q4] at he
   have:=hM.inj j i o o2 b h1 h2 q2 q3 h3 he;subst this;exact hj (kQ5 q1)
  refine ⟨hF.keep b hb1 no0,fun hf => ?_,fun p o1 hp hl he => ?_⟩
  ·rcases hF.F2 b hf with q | q | ⟨p,o0,q1,q2,q3⟩
   ·exact hM.nF j o b h1 h2 h3 q
   ·omega
   ·exact no0 p o0 q1 q2 q3
  ·rcases hF.new p o1 b hp hl he with q | ⟨p0,o0,q1,q2,q3⟩
   ·omega
   ·exact no0 p0 o0 q1 q2 q3
 have ix:∀ j,(j∈all→∃ p,idx all j 0=some p∧all[p]? = some j)∧(j∉all→idx all j 0=none):=fun j=>by
  refine ⟨fun hj => ?_,fun hj => ?_⟩
  ·obtain ⟨p,hp,he⟩:=List.mem_iff_getElem.1 hj
   have:all[p]? = some j:=by rw [kQ0 hp,he]
   exact ⟨p,by simpa using oP hna 0 this,this⟩
  ·cases h1:idx all j 0 with
   | none=>rfl
   | some p =>
    obtain ⟨_,h2⟩:=tK _ _ _ _ h1;exact absurd (kQ5 h2) hj
 have cls:∀ (j:Nat) (o':AO),(upds M L)[j]? = some (some o')→(∃ p o1,all[p]? = some j∧M1[p]? = some (some o1)∧mpO (bkN all) o1=some o'∧(C.backN C1 all).ι j=C1.ι p∧(C.backN C1 all).κ j=C1.κ p) ∨
   (j∉ids∧j∉all∧M[j]? = some (some o')∧(C.backN C1 all).ι j=C.ι j∧(C.backN C1 all).κ j=C.κ j):=fun j o' hj=>by
  rw [← bB] at hj
  by_cases hm:j∈all
  ·obtain ⟨p,hp1,hp2⟩:=(ix j).1 hm
   obtain ⟨o1,h1,h2⟩:=(u1 p j o' hp2).1 hj;exact .inl ⟨p,o1,hp2,h1,h2,by simp [Cx.backN,hp1],by simp [Cx.backN,hp1]⟩
  ·have hn:=(ix j).2 hm
   rw [u4 j hm] at hj
   exact .inr ⟨fun h=>hm ((memA j).2 (.inl h)),hm,bB.1 hj,by simp [Cx.backN,hn],by simp [Cx.backN,hn]⟩
 have hF2:Fr C M w (C.backN C1 all) (upds M L) w':=by
  refine ⟨hF.os,hF.tape,hF.out,hF.size,fun b hb1 hn => ?_,fun i o ho => ?_,fun i o ho ty n cs hx => ?_,fun i o ho o' hx hl => ?_,fun j o b hj hl hjb => ?_,fun b hb=>hF.F1 b hb,fun b hb => ?_⟩
  ·exact hF.keep b hb1 fun p o0 hp hl he=>by
    obtain ⟨i,o2,q1,q2,q3,_,q4⟩:=sh_of p o0 hp;rw [q4] at he
    exact hn i o2 q2 q3 he
  ·by_cases hm:i∈all
   ·obtain ⟨p,hp1,hp2⟩:=(ix i).1 hm
    have hmi:i∈ids:=Classical.byContradiction fun hni=>cP (newF p i hp2 hni) o ho
    obtain ⟨_,o0,_,_,h3,h4,h5,h6⟩:=shown0 p i (oldP p i hp2 hmi);obtain ⟨⟨o1,q1⟩,q2,q3⟩:=hF.ids p o0 h3;refine ⟨?_,by simp only [Cx.backN,hp1];rw [q2,h5],by simp only [Cx.backN,hp1];rw [q3,h6]⟩
    obtain ⟨o',hq⟩:=aBs hU p o1 q1;exact ⟨o',bB.1 ((u1 p i o' hp2).2 ⟨o1,q1,hq⟩)⟩
   ·refine ⟨⟨o,bB.1 (by rw [u4 i hm];exact bB.2 ho)⟩,by simp [Cx.backN,(ix i).2 hm],by simp [Cx.backN,(ix i).2 hm]⟩
  ·rcases cls i _ hx with ⟨p,o1,q1,q2,q3,_⟩ | ⟨_,_,q3,_⟩
   ·have hmi:i∈ids:=Classical.byContradiction fun hni=>cP (newF p i q1 hni) o ho
    have q1:=oldP p i q1 hmi;rw [kJ q3] at q2
    obtain ⟨o2,o0,h1,_,h3,_⟩:=shown0 p i q1;obtain ⟨cs',h5⟩:=hF.row p o0 h3 _ _ _ q2;obtain ⟨o4,h6,h7⟩:=hmp.bk _ _ _ (rnp p i q1) h5;rw [kJ h7] at h6
    exact ⟨cs',h6⟩
   ·exact ⟨cs,q3⟩
  ·rcases cls i _ hx with ⟨p,o1,q1,q2,q3,_⟩ | ⟨_,_,q3,_⟩
   ·have hmi:i∈ids:=Classical.byContradiction fun hni=>cP (newF p i q1 hni) o ho
    obtain ⟨o2,o0,h1,h2,h3,_⟩:=shown0 p i (oldP p i q1 hmi);rw [ho] at h1;cases h1
    exact h2
   ·rw [ho] at q3;cases q3;exact hl
  ·have fin:∀ (p:Nat) (o1:AO),M1[p]? = some (some o1)→o1.live=true→C1.ι p=some b→w.heap.size≤b∨∃ (id0:Nat) (o0:AO),M[id0]? = some (some o0)∧o0.live=true∧C.ι id0=some b:=fun p o1 h1 h2 h3=>by
    rcases hF.new p o1 b h1 h2 h3 with q | ⟨p0,o0,q1,q2,q3⟩
    ·exact .inl q
    ·obtain ⟨i,o2,r1,r2,r3,_,r4⟩:=sh_of p0 o0 q1
     rw [r4] at q3
     exact .inr ⟨i,o2,r2,r3,q3⟩
   rcases cls j _ hj with ⟨p,o1,q1,q2,q3,q4,_⟩ | ⟨_,_,q3,q4,_⟩
   ·rw [q4] at hjb
    exact fin p o1 q2 (by rw [← bI q3];exact hl) hjb
   ·rw [q4] at hjb
    exact .inr ⟨j,o,q3,hl,hjb⟩
  ·rcases hF.F2 b hb with q | q | ⟨p,o0,q1,q2,q3⟩
   ·exact .inl q
   ·exact .inr (.inl q)
   ·obtain ⟨i,o2,r1,r2,r3,_,r4⟩:=sh_of p o0 q1
    rw [r4] at q3
    exact .inr (.inr ⟨i,o2,r2,r3,q3⟩)
 have hL2:=hM.le hF2;have hbk:aTi (bkN all) C1 (C.backN C1 all) M1 (upds M L):=by
  refine ⟨fun i j o' hij hj=>(u1 i j o' hij).1 (bB.2 hj),fun i j o hij hi => ?_,fun i j hij => ?_,fun _ h=>h⟩
  ·obtain ⟨o',hq⟩:=aBs hU i o hi
   exact ⟨o',bB.1 ((u1 i j o' hij).2 ⟨o,hi,hq⟩),hq⟩
  ·have:=oP hna 0 hij
   rw [gE] at this
   simp [Cx.backN,this]
 refine ⟨hF2,⟨fun j ty n cs h => ?_,fun j ty cs h => ?_,fun j es cl h => ?_,fun j j' o1 o2 b q1 l1 q2 l2 e1 e2 => ?_,fun j o b h hl hb => ?_,hM1.Fs,fun j o b h hl hb => ?_⟩,rA hbk hr hy⟩
 ·rcases cls j _ h with ⟨p,o1,q1,q2,q3,q4,q5⟩ | ⟨q1,_,q3,q4,q5⟩
  ·rw [kJ q3] at q2
   rw [q4,q5];exact hM1.row _ _ _ _ q2
  ·rw [q4,q5]
   rcases hM.row _ _ _ _ q3 with q | ⟨b,arr,inf,p0,p1,p2,p3,p4,p5,p6,p7,p8⟩
   ·exact .inl q
   ·exact .inr ⟨b,arr,inf,p0,by rw [(apart j _ b q1 q3 rfl p0).1];exact p1,p2,p3,p4,p5,p6,fun i hi=>(p7 i hi).mono hL2.F hL2.fz,p8⟩
 ·rcases cls j _ h with ⟨p,o1,q1,q2,q3,q4,q5⟩ | ⟨q1,_,q3,q4,q5⟩
  ·cases o1 with
   | box ty' l =>
    simp only [mpO,kN] at q3
    obtain ⟨l',hl',e⟩:=q3;cases e;obtain ⟨b,arr,p0,p1,p2,p3,p4⟩:=hM1.box _ _ _ q2;obtain ⟨n1,n2⟩:=fV hbk (w:=w') (us:=fun j=>arr.getD j undef) p3 hl'
    exact ⟨b,arr,by rw [q4];exact p0,p1,by omega,n2,fun j hj=>p4 j (by omega)⟩
   | row=>simp [mpO] at q3
   | mp=>simp [mpO] at q3
   | pk=>simp [mpO] at q3
   | dead=>simp [mpO] at q3
  ·obtain ⟨b,arr,p0,p1,p2,p3,p4⟩:=hM.box _ _ _ q3
   exact ⟨b,arr,by rw [q4];exact p0,by rw [(apart j _ b q1 q3 rfl p0).1];exact p1,p2,fun i hi=>(p3 i hi).mono hL2,p4⟩
 ·rcases cls j _ h with ⟨p,o1,q1,q2,q3,q4,q5⟩ | ⟨q1,_,q3,q4,q5⟩
  ·cases o1 with
   | mp es' cl' =>
    simp only [mpO,Option.some.injEq] at q3
    cases q3;obtain ⟨b,arr,p0,p1,p2,p3⟩:=hM1.mp _ _ _ q2;refine ⟨b,arr,by rw [q4];exact p0,p1,p2,fun j hj => ?_⟩
    obtain ⟨en,s1,s2,s3,s4⟩:=p3 j hj;exact ⟨en,s1,s2,s3,s4.mono hbk.F (fun _ _=>rfl)⟩
   | row=>simp [mpO] at q3
   | box=>simp [mpO] at q3
   | pk=>simp [mpO] at q3
   | dead=>simp [mpO] at q3
  ·obtain ⟨b,arr,p0,p1,p2,p3⟩:=hM.mp _ _ _ q3
   refine ⟨b,arr,by rw [q4];exact p0,by rw [(apart j _ b q1 q3 rfl p0).1];exact p1,p2,fun i hi => ?_⟩
   obtain ⟨en,s1,s2,s3,s4⟩:=p3 i hi;exact ⟨en,s1,s2,s3,s4.mono hL2.F hL2.fz⟩
 ·rcases cls j _ q1 with ⟨p,a1,r1,r2,r3,r4,_⟩ | ⟨r1,rb,r3,r4,_⟩ <;> rcases cls j' _ q2 with ⟨p',a2,t1,t2,t3,t4,_⟩ | ⟨t1,tb,t3,t4,_⟩
  all_goals (rw [r4] at e1;rw [t4] at e2)
  ·have:=hM1.inj p p' a1 a2 b r2 (by rw [← bI r3];exact l1) t2 (by rw [← bI t3];exact l2) e1 e2
   subst this;rw [r1] at t1;cases t1;rfl
  ·exact absurd e1 ((apart j' o2 b t1 t3 l2 e2).2.2 p a1 r2 (by rw [← bI r3];exact l1))
  ·exact absurd e2 ((apart j o1 b r1 r3 l1 e1).2.2 p' a2 t2 (by rw [← bI t3];exact l2))
  ·exact hM.inj j j' o1 o2 b r3 l1 t3 l2 e1 e2
 ·rcases cls j _ h with ⟨p,o1,q1,q2,q3,q4,q5⟩ | ⟨q1,_,q3,q4,q5⟩
  ·rw [q4] at hb
   exact hM1.nF _ _ b q2 (by rw [← bI q3];exact hl) hb
  ·rw [q4] at hb
   exact (apart j o b q1 q3 hl hb).2.1
 ·rcases cls j _ h with ⟨p,o1,q1,q2,q3,q4,q5⟩ | ⟨q1,_,q3,q4,q5⟩
  ·rw [q4] at hb
   exact hM1.lt _ _ b q2 (by rw [← bI q3];exact hl) hb
  ·rw [q4] at hb
   exact kQ8 (hM.lt j o b q3 hl hb) hF.size

def bDz(ids news:List Nat)(args:List AV)(bs:Upd)(M1:Mem)(r:AV):Option (List AV × Mem × AV × Upd):=match distinct 0 ids && distinct 0 (ids++news) && ids.all (eG (upds [] bs)) with
 | true=>match rnM 0 ids (ids.map (at? (upds [] bs))) with
  | some M0=>match rnL 0 ids args with
   | some args0=>match uY (ids++news) (ids++news) M1 with
    | some L=>match mpA (bkN (ids++news)) r with
     | some y=>some (args0,M0,y,L)
     | none=>none
    | none=>none
   | none=>none
  | none=>none
 | false=>none
theorem FMM.fcN{f base k:Nat}(hk:Nat.ble k 8=true){ids:List Nat}{args args0:List AV}{bs:Upd}{r y:AV}{L:Upd}(h:FMM P f args0 M0 r M1)(hs:bDz ids ((List.range k).map (base + ·)) args bs M1 r=some (args0,M0,y,L)):FC P f args bs base y L:=fun M hb hf hf2=>by
 unfold bDz at hs
 have hsub:aLq (upds [] bs) M:=fun id o ho=>by
  rcases pP bs [] id o ho with h5 | h5
  ·exact hb _ h5
  ·simp [bQ] at h5
 split at hs
 ·rename_i hd
  rw [kQ7,kQ7,gU] at hd
  obtain ⟨⟨hd1,hd2⟩,hd3⟩:=hd;have hlv:∀ i∈ids,∃ o,bQ (upds [] bs) i=some o∧bQ M i=some o∧o.live=true:=fun i hi=>by
   obtain ⟨o,h1,h2⟩:=dI (hd3 i hi);exact ⟨o,bB.2 h1,hsub _ _ (bB.2 h1),h2⟩
  split at hs
  ·rename_i h1
   split at hs
   ·rename_i h2
    split at hs
    ·rename_i h3
     split at hs
     ·rename_i h4
      cases hs;have he:ids.map (at? M)=ids.map (at? (upds [] bs)):=aAs fun i hi=>by
       obtain ⟨o,q1,q2,_⟩:=hlv i hi;unfold at?
       rw [q1,q2]
      intro C w us hus hM n;have h1':rnM 0 ids (ids.map (at? M))=some M0:=by rw [he];exact h1
      obtain ⟨hM0,hmp,_⟩:=pR (k:=0) hM hd1 h1';refine (h (C.rn 0 ids) w us (aGl hmp hus h2) hM0 n).mono ?_;rintro e w' ⟨u,rfl,C1,hF,hM1,hr⟩;exact ⟨u,rfl,C.backN C1 (ids++(List.range k).map (base + ·)),bDy hd1 hd2 (fun i hi=>by
       obtain ⟨j,hj,rfl⟩:=eQ.1 hi;have hj:=vZ.1 hj;have hk:=Nat.le_of_ble_eq_true hk;exact hf2 j (by omega)) h1' (fun i hi=>by
       obtain ⟨o,_,q2,q3⟩:=hlv i hi;exact iL (bB.1 q2) q3) h3 h4 hM hF hM1 hr⟩
     ·cases hs
    ·cases hs
   ·cases hs
  ·cases hs
 ·cases hs
end
section
variable {dl:Int}{sk dc:Lqq}

noncomputable abbrev eA:Code:=sub (cd Tryz.f134) [1,1,0,1,0,0]
noncomputable abbrev mX:Code:=sub (cd Tryz.f83) [1,1,1,0,1,0,0]
theorem bCv:0≤(0:Int)∧(0:Int)<5:=by first | decide | simp
theorem bCw:0≤(1:Int)∧(1:Int)<5:=by first | decide | simp
theorem bCx:0≤(2:Int)∧(2:Int)<5:=by first | decide | simp
theorem bCy:0≤(3:Int)∧(3:Int)<5:=by first | decide | simp
theorem bCz:0≤(4:Int)∧(4:Int)<5:=by first | decide | simp
abbrev yG(dl:Int)(sk dc:Lqq)(ov:PV)(x:List Int)(bib:Int)(b:Bool)(T T2:Lqb):Prop:=FMM Tp 136 [fT,.p (.agg (x.map aA)),.p (aA bib)] (cW dl sk dc ov T) (pB b) (cW dl sk dc ov T2)
abbrev aCw(dl:Int)(sk dc:Lqq)(ov:PV)(s:List Int)(n:Int)(b:Bool)(T T2:Lqb):Prop:=FMM Tp 134 [pK dl sk dc,.p (.agg (s.map aA)),fT] (cW dl sk dc ov T) (.tup [.p (aA n),.p (blP b)]) (cW dl sk dc ov T2)
abbrev bIm(g:Nat)(dl:Int)(sk dc:Lqq)(ov:PV)(x:List Int)(b:Bool)(T T2:Lqb):Prop:=FMM Tp g [pK dl sk dc,fT,.p (.agg (x.map aA))] (cW dl sk dc ov T) (pB b) (cW dl sk dc ov T2)
theorem bPc{ov:PV}{T:Lqb}{x0 x1 x2 x3 x4 x5 bib:Int}{b0:Bool}{T1:Lqb}(h0:(decide (x1≤4))=true)(h1:x3=bib)(h2:pO dl sk dc ov [x0,x1,x2,x3,x4,x5] b0 T T1)(h3:b0=true)(h4:x1≠4):FMM Tp 136 [fT,(.p (dcE x0 x1 x2 x3 x4 x5)),(pI bib)] (cW dl sk dc ov T) (pB true) (cW dl sk dc ov T1):=by
 exact FMM.fin (k:=7) (g:=⟨[],[],[],[]⟩) rfl Tryz.func136 rfl (o:=[.c (pB (decide (x1≤4))) [],bT,bT,bT,bT,bT,bT,bT,bT,bT,.c (pB b0) (vU dl sk dc ov T1),bT,bT,bT,bT,bT,bT,bT,bT,bT,bT,bT,bT]) (l:=[_,_,_,_,_,_,_,_,_,_,_,_,FC Tp 154 [(.p (dcE x0 x1 x2 x3 x4 x5)),(.ptr 4 0),(.ptr 5 0),(.ptr 0 0),(.ptr 2 0)] [(4,(.box 207 [(.mp 3)])),(5,(vB5 dl sk dc)),(0,(vB0 dl sk dc)),(2,vB2),(3,(.mp (aF T) T.length)),(6,vB6),(1,(.box 33 [(.p ov)]))] 9 (pB b0) (vU dl sk dc ov T1),_,_,_,_,_,_,_,_,_,_]) (by kernel_rfl) (gc h3 (gc (uO h4) (gc h3 (g4c (uO h4) (g4c h3 (gc (eR h1) (gc (FMM.fc (ids:=[0,1,2,3,4,5,6]) h2 (by kernel_rfl)) (g4c (eR h1) (g5c h0 (gc (fk 9 (eH x1) rfl) gn))))))))))
theorem bPd{ov:PV}{T:Lqb}{x0 x1 x2 x3 x4 x5 bib:Int}{b0:Bool}{T1:Lqb}{b2:Bool}{T3:Lqb}(h0:(decide (x1≤4))=true)(h1:x3=bib)(h2:pO dl sk dc ov [x0,x1,x2,x3,x4,x5] b0 T T1)(h3:b0=true)(h4:x1=4)(h5:bIp dl sk dc ov [x0,x1,x2,x3,x4,x5] b2 T1 T3):FMM Tp 136 [fT,(.p (dcE x0 x1 x2 x3 x4 x5)),(pI bib)] (cW dl sk dc ov T) (pB b2) (cW dl sk dc ov T3):=by
 exact FMM.fin (k:=7) (g:=⟨[],[],[],[]⟩) rfl Tryz.func136 rfl (o:=[.c (pB (decide (x1≤4))) [],bT,bT,bT,bT,bT,bT,bT,bT,bT,.c (pB b0) (vU dl sk dc ov T1),bT,bT,bT,bT,bT,bF,bF,bF,bF,.c (pB b2) (vU dl sk dc ov T3),bT,bF,bT]) (l:=[_,_,_,FC Tp 157 [(.p (dcE x0 x1 x2 x3 x4 x5)),(.ptr 2 0),(.ptr 1 0)] [(2,vB2),(1,(.box 33 [(.p ov)])),(4,(.box 207 [(.mp 3)])),(5,(vB5 dl sk dc)),(0,(vB0 dl sk dc)),(6,vB6),(3,(.mp (aF T1) T1.length))] 9 (pB b2) (vU dl sk dc ov T3),_,_,_,_,_,_,_,_,_,FC Tp 154 [(.p (dcE x0 x1 x2 x3 x4 x5)),(.ptr 4 0),(.ptr 5 0),(.ptr 0 0),(.ptr 2 0)] [(4,(.box 207 [(.mp 3)])),(5,(vB5 dl sk dc)),(0,(vB0 dl sk dc)),(2,vB2),(3,(.mp (aF T) T.length)),(6,vB6),(1,(.box 33 [(.p ov)]))] 9 (pB b0) (vU dl sk dc ov T1),_,_,_,_,_,_,_,_,_,_]) (by kernel_rfl) (gc h3 (gc (pF h4) (gc h3 (gc (FMM.fc (ids:=[0,1,2,3,4,5,6]) h5 (by kernel_rfl)) (g4c (pF h4) (g4c h3 (gc (eR h1) (gc (FMM.fc (ids:=[0,1,2,3,4,5,6]) h2 (by kernel_rfl)) (g4c (eR h1) (g5c h0 (gc (fk 9 (eH x1) rfl) gn)))))))))))
theorem bPe{ov:PV}{T:Lqb}{x0 x1 x2 x3 x4 x5 bib:Int}{b0:Bool}{T1:Lqb}(h0:(decide (x1≤4))=true)(h1:x3=bib)(h2:pO dl sk dc ov [x0,x1,x2,x3,x4,x5] b0 T T1)(h3:b0=false):FMM Tp 136 [fT,(.p (dcE x0 x1 x2 x3 x4 x5)),(pI bib)] (cW dl sk dc ov T) (pB false) (cW dl sk dc ov T1):=by
 exact FMM.fin (k:=7) (g:=⟨[],[],[],[]⟩) rfl Tryz.func136 rfl (o:=[.c (pB (decide (x1≤4))) [],bT,bT,bT,bT,bT,bT,bT,bT,bT,.c (pB b0) (vU dl sk dc ov T1),bT,bF,bF,bF,bF,bF,bF]) (l:=[_,_,_,_,_,_,_,FC Tp 154 [(.p (dcE x0 x1 x2 x3 x4 x5)),(.ptr 4 0),(.ptr 5 0),(.ptr 0 0),(.ptr 2 0)] [(4,(.box 207 [(.mp 3)])),(5,(vB5 dl sk dc)),(0,(vB0 dl sk dc)),(2,vB2),(3,(.mp (aF T) T.length)),(6,vB6),(1,(.box 33 [(.p ov)]))] 9 (pB b0) (vU dl sk dc ov T1),_,_,_,_,_,_,_,_,_,_]) (by kernel_rfl) (g6c h3 (gc (eR h1) (gc (FMM.fc (ids:=[0,1,2,3,4,5,6]) h2 (by kernel_rfl)) (g4c (eR h1) (g5c h0 (gc (fk 9 (eH x1) rfl) gn))))))
theorem bPf{ov:PV}{T:Lqb}{x0 x1 x2 x3 x4 x5 bib:Int}(h0:(decide (x1≤4))=true)(h1:x3≠bib):FMM Tp 136 [fT,(.p (dcE x0 x1 x2 x3 x4 x5)),(pI bib)] (cW dl sk dc ov T) (pB false) (cW dl sk dc ov T):=by
 exact FMM.fin (k:=7) (g:=⟨[],[],[],[]⟩) rfl Tryz.func136 rfl (o:=[.c (pB (decide (x1≤4))) [],bT,bT,bT,bT,bT,bF,bF,bF,bF,bF]) (l:=[_,_,_,_,_,_,_,_,_,_,_]) (by kernel_rfl) (g5c (bR h1) (g5c h0 (gc (fk 9 (eH x1) rfl) gn)))
theorem bPg{ov:PV}{T:Lqb}{x0 x1 x2 x3 x4 x5 bib:Int}(h0:(decide (x1≤4))=false):FMM Tp 136 [fT,(.p (dcE x0 x1 x2 x3 x4 x5)),(pI bib)] (cW dl sk dc ov T) (pB false) (cW dl sk dc ov T):=by
 exact FMM.fin (k:=7) (g:=⟨[],[],[],[]⟩) rfl Tryz.func136 rfl (o:=[.c (pB (decide (x1≤4))) [],bF,bF,bF,bF,bF]) (l:=[_,_,_,_,_,_]) (by kernel_rfl) (g5c h0 (gc (fk 9 (eH x1) rfl) gn))
theorem bPh{a b r0:Int}(h0:inR (a+b))(er0:r0=(a+b)){base:Nat}:FV Tp 212 [(pI a),(pI b)] base (pI r0) []:=by
 subst er0;exact FV.fin Tryz.func212 rfl (o:=[]) (l:=[_]) (by kernel_rfl) (gc h0 gn)
theorem bPi{a b r0:Int}(h0:inR (a-b))(er0:r0=(a-b)){base:Nat}:FV Tp 213 [(pI a),(pI b)] base (pI r0) []:=by
 subst er0;exact FV.fin Tryz.func213 rfl (o:=[]) (l:=[_]) (by kernel_rfl) (gc h0 gn)
theorem bPj{a b r0:Int}(h0:inR ((1200:Int)*b))(h1:inR (a+((1200:Int)*b)))(er0:r0=(a+((1200:Int)*b))){base:Nat}:FV Tp 214 [(pI a),(pI b)] base (pI r0) []:=by
 subst er0;exact FV.fin Tryz.func214 rfl (o:=[]) (l:=[_,_]) (by kernel_rfl) (gc h1 (gc h0 gn))
theorem bPk{a b:Int}{base:Nat}:FV Tp 215 [(pI a),(pI b)] base (pI a) []:=by
 exact FV.fin Tryz.func215 rfl (o:=[]) (l:=[]) (by kernel_rfl) (gn)
theorem aGu(a b:Int)(h:inR (a+b)){base:Nat}:FV Tp 212 [.p (aA a),.p (aA b)] base (pI (a+b)) []:=bPh h rfl
theorem bDa(a b:Int)(h:inR (a-b)){base:Nat}:FV Tp 213 [.p (aA a),.p (aA b)] base (pI (a-b)) []:=bPi h rfl
theorem bDb(a b:Int)(h:inR (1200*b)∧inR (a+1200*b)){base:Nat}:FV Tp 214 [.p (aA a),.p (aA b)] base (pI (a+1200*b)) []:=bPj h.1 h.2 rfl
theorem bDc(a b:Int){base:Nat}:FV Tp 215 [.p (aA a),.p (aA b)] base (pI a) []:=bPk
theorem mY{base:Nat}:FV Tp 183 [] base (.agg [(.fn 212 [] []),(.fn 213 [] []),(.fn 214 [] []),(.fn 215 [] []),(.fn 212 [] [])]) []:=by
 exact FV.fin Tryz.func183 rfl (o:=[]) (l:=[]) (by kernel_rfl) (gn)
def oU(l:List Int)(m:Int)(i:Nat):St:=⟨fr 18 [(0,(pI m)),(4,(pI 0)),(7,(.p (aH l))),(8,(pI (l.length:Int))),(9,(pI (i:Int)))],[]⟩
theorem bPl{a:Int}{l:List Int}{m'0:Int}{i'1:Nat}(hl0:aM Tp 0 (sub (cd Tryz.f184) [1,0,1,0,0]) (oU l a 0) (.exit 0) (oU l m'0 i'1)){base:Nat}:FV Tp 184 [(pI a),(.p (aH l))] base (pI m'0) []:=by
 exact FV.fin Tryz.func184 rfl (o:=[.k 6 ⟨(rng [(1,3),(5,2),(10,7)]),[],[],[]⟩ (.exit 0) (oU l m'0 i'1)]) (l:=[_]) (by kernel_rfl) (gc hl0.code gn)
theorem aWb{l:List Int}{m:Int}{i:Nat}{x100 m':Int}{i':Nat}(h0:(i:Int)<(l.length:Int))(h1:l[i]? = some x100)(h2:inR (((i+1):Nat):Int))(em':m'=(if x100 > m then x100 else m))(ei':i'=(i+1)):aC Tp 0 (sub (cd Tryz.f184) [1,0,1,0,0]) (oU l m i) .normal (oU l m' i'):=by
 subst em' ei';exact aC.fin (g:=⟨(rng [(1,3),(5,2),(10,7)]),[],[],[]⟩) (o:=[bT,.x (aA x100)]) (l:=[_,_,_,_]) (by kernel_rfl) (gc h2 (gc (atm aA h1) (gc (ixn aA h1) (gc (bD h0) gn))))
theorem aWc{l:List Int}{m:Int}{i:Nat}(h0:(l.length:Int)≤(i:Int)):aC Tp 0 (sub (cd Tryz.f184) [1,0,1,0,0]) (oU l m i) (.exit 0) (oU l m i):=by
 exact aC.fin (g:=⟨(rng [(1,3),(5,2),(10,7)]),[],[],[]⟩) (o:=[bF]) (l:=[_]) (by kernel_rfl) (gc (bU h0) gn)
def yH(a:Int)(l:List Int):Int:=l.foldl (fun m x=>if x > m then x else m) a
theorem aOk(a:Int)(l:List Int)(hl:l.length≤1000){base:Nat}:FV Tp 184 [.p (aA a),.p (aH l)] base (pI (yH a l)) [] :=
 bPl (aM.range (P:=Tp) (k:=0) (e := .exit 0) (fun i m=>oU l m i) (fun m=>oU l m l.length) (fun m x=>if x > m then x else m) (fun _ _=>True) (by simp) l trivial
  (fun i x acc hx _=>⟨trivial,aWb (by have:=bE hx;omega) hx (aP (by have:=bE hx;omega)) rfl rfl⟩) (fun acc _=>aWc (by omega)))
def bL(dl:Int)(sk:Lqq)(dc:Lqq)(ov:PV)(s0:Int)(s1:Int)(out:Bool)(tot:Int)(i:Nat)(te:List (Value × PV))(tk:Nat):St:=⟨fr 54 [(4,(.ptr 7 0)),(5,(.ptr 8 0)),(6,(pI 0)),(7,(.kb false)),(8,(pB out)),(9,(pI tot)),(21,(.p (fS dc))),(22,(pI (dc.length:Int))),(23,(pI (i:Int)))],[some (vB0 dl sk dc),some (.box 33 [(.p ov)]),some vB2,some (.mp te tk),some (.box 207 [(.mp 3)]),some (vB5 dl sk dc),some vB6,some (.box 31 [(pI s0),(pI s1)]),some vB2]⟩
theorem bPm{ov:PV}{T:Lqb}{s0 s1:Int}{out'0:Bool}{tot'1:Int}{i'2:Nat}{t'3:Lqb}(hl0:aM Tp 7 eA (bL dl sk dc ov s0 s1 (s1 == (-1:Int)) s1 0 (aF T) T.length) (.exit 0) (bL dl sk dc ov s0 s1 out'0 tot'1 i'2 (aF t'3) t'3.length))(h1:out'0=true):FMM Tp 134 [(.rp (aI dl sk dc) 0),(.p (.agg [(aA s0),(aA s1)])),fT] (cW dl sk dc ov T) (.tup [(pI 0),(pB true)]) (cW dl sk dc ov t'3):=by
 exact FMM.fin (k:=7) (g:=⟨[],[],[],[]⟩) rfl Tryz.func134 rfl (o:=[.x (fS dc),.k 1 ⟨(rng [(0,4),(10,11),(24,26)]),[7,8],[],[]⟩ (.exit 0) (bL dl sk dc ov s0 s1 out'0 tot'1 i'2 (aF t'3) t'3.length),bT]) (l:=[_,_,(aI dl sk dc)[2]? = some (fS dc)]) (by kernel_rfl) (gc h1 (gc hl0.code (gc rfl gn)))
theorem bPn{ov:PV}{T:Lqb}{s0 s1:Int}{out'0:Bool}{tot'1:Int}{i'2:Nat}{t'3:Lqb}{r0:Int}(hl0:aM Tp 7 eA (bL dl sk dc ov s0 s1 (s1 == (-1:Int)) s1 0 (aF T) T.length) (.exit 0) (bL dl sk dc ov s0 s1 out'0 tot'1 i'2 (aF t'3) t'3.length))(h1:out'0=false)(h2:([tot'1]:List Int).length≤1000)(er0:r0=(yH (0:Int) ([tot'1]:List Int))):FMM Tp 134 [(.rp (aI dl sk dc) 0),(.p (.agg [(aA s0),(aA s1)])),fT] (cW dl sk dc ov T) (.tup [(pI r0),(pB false)]) (cW dl sk dc ov t'3):=by
 subst er0;exact FMM.fin (k:=7) (g:=⟨[],[],[],[]⟩) rfl Tryz.func134 rfl (o:=[.x (fS dc),.k 1 ⟨(rng [(0,4),(10,11),(24,26)]),[7,8],[],[]⟩ (.exit 0) (bL dl sk dc ov s0 s1 out'0 tot'1 i'2 (aF t'3) t'3.length),bF,.c (pI (yH (0:Int) ([tot'1]:List Int))) []]) (l:=[FC Tp 184 [(pI 0),(.own 9)] [(9,(.row 3 1 [(aA tot'1)]))] 10 (pI (yH (0:Int) ([tot'1]:List Int))) [],_,_,(aI dl sk dc)[2]? = some (fS dc)]) (by kernel_rfl) (gc (fv (aOk (0:Int) ([tot'1]:List Int) h2)) (gc h1 (gc hl0.code (gc rfl gn))))
theorem aWd{ov:PV}{s0 s1:Int}{out:Bool}{tot:Int}{i:Nat}{t:Lqb}{y100 y102 y103 y104 y105:Int}{b106:Bool}{T107:Lqb}{m108:Int}{T109:Lqb}{tot':Int}{i':Nat}{t':Lqb}(h0:(i:Int)<(dc.length:Int))(h1:dc[i]? = some [y100,(0:Int),y102,y103,y104,y105])(h2:uni 6 dc)(h3:yG dl sk dc ov [y100,(0:Int),y102,y103,y104,y105] s0 b106 t T107)(h4:b106=true)(h5:out=true)(h6:yI dl sk dc ov [y100,(0:Int),y102,y103,y104,y105] m108 T107 T109)(h7:inR (tot+m108))(h8:inR (((i+1):Nat):Int))(etot':tot'=(tot+m108))(ei':i'=(i+1))(et'e:aF t'=(aF T109))(et'k:t'.length=T109.length):aC Tp 7 eA (bL dl sk dc ov s0 s1 out tot i (aF t) t.length) .normal (bL dl sk dc ov s0 s1 true tot' i' (aF t') t'.length):=by
 subst etot' ei';have raw:aC Tp 7 eA (bL dl sk dc ov s0 s1 out tot i (aF t) t.length) .normal (bL dl sk dc ov s0 s1 true (tot+m108) (i+1) (aF T109) T109.length):=aC.fin (g:=⟨(rng [(0,4),(10,11),(24,26)]),[7,8],[],[(8,0)]⟩) (o:=[bT,.x (dcE y100 0 y102 y103 y104 y105),.c (pB b106) (vU dl sk dc ov T107),bT,bT,bT,bT,bT,.c (.agg [(.fn 212 [] []),(.fn 213 [] []),(.fn 214 [] []),(.fn 215 [] []),(.fn 212 [] [])]) [],.c (pI m108) (vU dl sk dc ov T109),.c (pI (tot+m108)) []]) (l:=[_,_,FC Tp 160 [(.p (dcE y100 0 y102 y103 y104 y105)),(.ptr 2 0)] [(2,vB2),(4,(.box 207 [(.mp 3)])),(5,(vB5 dl sk dc)),(0,(vB0 dl sk dc)),(6,vB6),(1,(.box 33 [(.p ov)])),(3,(.mp (aF T107) T107.length))] 18 (pI m108) (vU dl sk dc ov T109),_,FC Tp 183 [] [] 10 (.agg [(.fn 212 [] []),(.fn 213 [] []),(.fn 214 [] []),(.fn 215 [] []),(.fn 212 [] [])]) [],_,_,_,_,_,FC Tp 136 [fT,(.p (dcE y100 0 y102 y103 y104 y105)),(pI s0)] [(4,(.box 207 [(.mp 3)])),(5,(vB5 dl sk dc)),(0,(vB0 dl sk dc)),(2,vB2),(6,vB6),(1,(.box 33 [(.p ov)])),(3,(.mp (aF t) t.length))] 10 (pB b106) (vU dl sk dc ov T107),_,_,0≤(i:Int)∧(i:Int)<(dc.length:Int)∧(i*6)<(dc.flatten.map aA).length,_]) (by kernel_rfl) (gc h8 (gc (fk 26 (aGu tot m108 h7) rfl) (gc (FMM.fc (ids:=[0,1,2,3,4,5,6]) h6 (by kernel_rfl)) (gc bCv (gc (FV.fc mY (by kernel_rfl)) (g4c h5 (gc h4 (gc (FMM.fc (ids:=[0,1,2,3,4,5,6]) h3 (by kernel_rfl)) (gc (aV (i:=i) h2 h1) (gc (bG (i:=i) h2 h1) (gc (bZ (k:=6) (i:=(i:Int)) (by decide) h2 (kQ3 _) h1) (gc (bD h0) gn))))))))))))
 exact raw.cast (by rw [et'e,et'k])
theorem aWe{ov:PV}{s0 s1:Int}{out:Bool}{tot:Int}{i:Nat}{t:Lqb}{y100 y102 y103 y104 y105:Int}{b106:Bool}{T107:Lqb}{m108:Int}{T109:Lqb}{out':Bool}{tot':Int}{i':Nat}{t':Lqb}(h0:(i:Int)<(dc.length:Int))(h1:dc[i]? = some [y100,(0:Int),y102,y103,y104,y105])(h2:uni 6 dc)(h3:yG dl sk dc ov [y100,(0:Int),y102,y103,y104,y105] s0 b106 t T107)(h4:b106=true)(h5:out=false)(h6:yI dl sk dc ov [y100,(0:Int),y102,y103,y104,y105] m108 T107 T109)(h7:inR (tot+m108))(h8:inR (((i+1):Nat):Int))(eout':out'=((0:Int) == (3:Int)))(etot':tot'=(tot+m108))(ei':i'=(i+1))(et'e:aF t'=(aF T109))(et'k:t'.length=T109.length):aC Tp 7 eA (bL dl sk dc ov s0 s1 out tot i (aF t) t.length) .normal (bL dl sk dc ov s0 s1 out' tot' i' (aF t') t'.length):=by
 subst eout' etot' ei';have raw:aC Tp 7 eA (bL dl sk dc ov s0 s1 out tot i (aF t) t.length) .normal (bL dl sk dc ov s0 s1 ((0:Int) == (3:Int)) (tot+m108) (i+1) (aF T109) T109.length):=aC.fin (g:=⟨(rng [(0,4),(10,11),(24,26)]),[7,8],[],[]⟩) (o:=[bT,.x (dcE y100 0 y102 y103 y104 y105),.c (pB b106) (vU dl sk dc ov T107),bT,bF,bF,bF,bF,.c (.agg [(.fn 212 [] []),(.fn 213 [] []),(.fn 214 [] []),(.fn 215 [] []),(.fn 212 [] [])]) [],.c (pI m108) (vU dl sk dc ov T109),.c (pI (tot+m108)) []]) (l:=[_,_,FC Tp 160 [(.p (dcE y100 0 y102 y103 y104 y105)),(.ptr 2 0)] [(2,vB2),(4,(.box 207 [(.mp 3)])),(5,(vB5 dl sk dc)),(0,(vB0 dl sk dc)),(6,vB6),(1,(.box 33 [(.p ov)])),(3,(.mp (aF T107) T107.length))] 18 (pI m108) (vU dl sk dc ov T109),_,FC Tp 183 [] [] 10 (.agg [(.fn 212 [] []),(.fn 213 [] []),(.fn 214 [] []),(.fn 215 [] []),(.fn 212 [] [])]) [],_,_,_,_,_,FC Tp 136 [fT,(.p (dcE y100 0 y102 y103 y104 y105)),(pI s0)] [(4,(.box 207 [(.mp 3)])),(5,(vB5 dl sk dc)),(0,(vB0 dl sk dc)),(2,vB2),(6,vB6),(1,(.box 33 [(.p ov)])),(3,(.mp (aF t) t.length))] 10 (pB b106) (vU dl sk dc ov T107),_,_,0≤(i:Int)∧(i:Int)<(dc.length:Int)∧(i*6)<(dc.flatten.map aA).length,_]) (by kernel_rfl) (gc h8 (gc (fk 26 (aGu tot m108 h7) rfl) (gc (FMM.fc (ids:=[0,1,2,3,4,5,6]) h6 (by kernel_rfl)) (gc bCv (gc (FV.fc mY (by kernel_rfl)) (g4c h5 (gc h4 (gc (FMM.fc (ids:=[0,1,2,3,4,5,6]) h3 (by kernel_rfl)) (gc (aV (i:=i) h2 h1) (gc (bG (i:=i) h2 h1) (gc (bZ (k:=6) (i:=(i:Int)) (by decide) h2 (kQ3 _) h1) (gc (bD h0) gn))))))))))))
 exact raw.cast (by rw [et'e,et'k])
theorem aWf{ov:PV}{s0 s1:Int}{out:Bool}{tot:Int}{i:Nat}{t:Lqb}{y100 y102 y103 y104 y105:Int}{b106:Bool}{T107:Lqb}{m108:Int}{T109:Lqb}{tot':Int}{i':Nat}{t':Lqb}(h0:(i:Int)<(dc.length:Int))(h1:dc[i]? = some [y100,(1:Int),y102,y103,y104,y105])(h2:uni 6 dc)(h3:yG dl sk dc ov [y100,(1:Int),y102,y103,y104,y105] s0 b106 t T107)(h4:b106=true)(h5:out=true)(h6:yI dl sk dc ov [y100,(1:Int),y102,y103,y104,y105] m108 T107 T109)(h7:inR (tot-m108))(h8:inR (((i+1):Nat):Int))(etot':tot'=(tot-m108))(ei':i'=(i+1))(et'e:aF t'=(aF T109))(et'k:t'.length=T109.length):aC Tp 7 eA (bL dl sk dc ov s0 s1 out tot i (aF t) t.length) .normal (bL dl sk dc ov s0 s1 true tot' i' (aF t') t'.length):=by
 subst etot' ei';have raw:aC Tp 7 eA (bL dl sk dc ov s0 s1 out tot i (aF t) t.length) .normal (bL dl sk dc ov s0 s1 true (tot-m108) (i+1) (aF T109) T109.length):=aC.fin (g:=⟨(rng [(0,4),(10,11),(24,26)]),[7,8],[],[(8,0)]⟩) (o:=[bT,.x (dcE y100 1 y102 y103 y104 y105),.c (pB b106) (vU dl sk dc ov T107),bT,bT,bT,bT,bT,.c (.agg [(.fn 212 [] []),(.fn 213 [] []),(.fn 214 [] []),(.fn 215 [] []),(.fn 212 [] [])]) [],.c (pI m108) (vU dl sk dc ov T109),.c (pI (tot-m108)) []]) (l:=[_,_,FC Tp 160 [(.p (dcE y100 1 y102 y103 y104 y105)),(.ptr 2 0)] [(2,vB2),(4,(.box 207 [(.mp 3)])),(5,(vB5 dl sk dc)),(0,(vB0 dl sk dc)),(6,vB6),(1,(.box 33 [(.p ov)])),(3,(.mp (aF T107) T107.length))] 18 (pI m108) (vU dl sk dc ov T109),_,FC Tp 183 [] [] 10 (.agg [(.fn 212 [] []),(.fn 213 [] []),(.fn 214 [] []),(.fn 215 [] []),(.fn 212 [] [])]) [],_,_,_,_,_,FC Tp 136 [fT,(.p (dcE y100 1 y102 y103 y104 y105)),(pI s0)] [(4,(.box 207 [(.mp 3)])),(5,(vB5 dl sk dc)),(0,(vB0 dl sk dc)),(2,vB2),(6,vB6),(1,(.box 33 [(.p ov)])),(3,(.mp (aF t) t.length))] 10 (pB b106) (vU dl sk dc ov T107),_,_,0≤(i:Int)∧(i:Int)<(dc.length:Int)∧(i*6)<(dc.flatten.map aA).length,_]) (by kernel_rfl) (gc h8 (gc (fk 26 (bDa tot m108 h7) rfl) (gc (FMM.fc (ids:=[0,1,2,3,4,5,6]) h6 (by kernel_rfl)) (gc bCw (gc (FV.fc mY (by kernel_rfl)) (g4c h5 (gc h4 (gc (FMM.fc (ids:=[0,1,2,3,4,5,6]) h3 (by kernel_rfl)) (gc (aV (i:=i) h2 h1) (gc (bG (i:=i) h2 h1) (gc (bZ (k:=6) (i:=(i:Int)) (by decide) h2 (kQ3 _) h1) (gc (bD h0) gn))))))))))))
 exact raw.cast (by rw [et'e,et'k])
theorem aWg{ov:PV}{s0 s1:Int}{out:Bool}{tot:Int}{i:Nat}{t:Lqb}{y100 y102 y103 y104 y105:Int}{b106:Bool}{T107:Lqb}{m108:Int}{T109:Lqb}{out':Bool}{tot':Int}{i':Nat}{t':Lqb}(h0:(i:Int)<(dc.length:Int))(h1:dc[i]? = some [y100,(1:Int),y102,y103,y104,y105])(h2:uni 6 dc)(h3:yG dl sk dc ov [y100,(1:Int),y102,y103,y104,y105] s0 b106 t T107)(h4:b106=true)(h5:out=false)(h6:yI dl sk dc ov [y100,(1:Int),y102,y103,y104,y105] m108 T107 T109)(h7:inR (tot-m108))(h8:inR (((i+1):Nat):Int))(eout':out'=((1:Int) == (3:Int)))(etot':tot'=(tot-m108))(ei':i'=(i+1))(et'e:aF t'=(aF T109))(et'k:t'.length=T109.length):aC Tp 7 eA (bL dl sk dc ov s0 s1 out tot i (aF t) t.length) .normal (bL dl sk dc ov s0 s1 out' tot' i' (aF t') t'.length):=by
 subst eout' etot' ei';have raw:aC Tp 7 eA (bL dl sk dc ov s0 s1 out tot i (aF t) t.length) .normal (bL dl sk dc ov s0 s1 ((1:Int) == (3:Int)) (tot-m108) (i+1) (aF T109) T109.length):=aC.fin (g:=⟨(rng [(0,4),(10,11),(24,26)]),[7,8],[],[]⟩) (o:=[bT,.x (dcE y100 1 y102 y103 y104 y105),.c (pB b106) (vU dl sk dc ov T107),bT,bF,bF,bF,bF,.c (.agg [(.fn 212 [] []),(.fn 213 [] []),(.fn 214 [] []),(.fn 215 [] []),(.fn 212 [] [])]) [],.c (pI m108) (vU dl sk dc ov T109),.c (pI (tot-m108)) []]) (l:=[_,_,FC Tp 160 [(.p (dcE y100 1 y102 y103 y104 y105)),(.ptr 2 0)] [(2,vB2),(4,(.box 207 [(.mp 3)])),(5,(vB5 dl sk dc)),(0,(vB0 dl sk dc)),(6,vB6),(1,(.box 33 [(.p ov)])),(3,(.mp (aF T107) T107.length))] 18 (pI m108) (vU dl sk dc ov T109),_,FC Tp 183 [] [] 10 (.agg [(.fn 212 [] []),(.fn 213 [] []),(.fn 214 [] []),(.fn 215 [] []),(.fn 212 [] [])]) [],_,_,_,_,_,FC Tp 136 [fT,(.p (dcE y100 1 y102 y103 y104 y105)),(pI s0)] [(4,(.box 207 [(.mp 3)])),(5,(vB5 dl sk dc)),(0,(vB0 dl sk dc)),(2,vB2),(6,vB6),(1,(.box 33 [(.p ov)])),(3,(.mp (aF t) t.length))] 10 (pB b106) (vU dl sk dc ov T107),_,_,0≤(i:Int)∧(i:Int)<(dc.length:Int)∧(i*6)<(dc.flatten.map aA).length,_]) (by kernel_rfl) (gc h8 (gc (fk 26 (bDa tot m108 h7) rfl) (gc (FMM.fc (ids:=[0,1,2,3,4,5,6]) h6 (by kernel_rfl)) (gc bCw (gc (FV.fc mY (by kernel_rfl)) (g4c h5 (gc h4 (gc (FMM.fc (ids:=[0,1,2,3,4,5,6]) h3 (by kernel_rfl)) (gc (aV (i:=i) h2 h1) (gc (bG (i:=i) h2 h1) (gc (bZ (k:=6) (i:=(i:Int)) (by decide) h2 (kQ3 _) h1) (gc (bD h0) gn))))))))))))
 exact raw.cast (by rw [et'e,et'k])
theorem aWh{ov:PV}{s0 s1:Int}{out:Bool}{tot:Int}{i:Nat}{t:Lqb}{y100 y102 y103 y104 y105:Int}{b106:Bool}{T107:Lqb}{m108:Int}{T109:Lqb}{tot':Int}{i':Nat}{t':Lqb}(h0:(i:Int)<(dc.length:Int))(h1:dc[i]? = some [y100,(2:Int),y102,y103,y104,y105])(h2:uni 6 dc)(h3:yG dl sk dc ov [y100,(2:Int),y102,y103,y104,y105] s0 b106 t T107)(h4:b106=true)(h5:out=true)(h6:yI dl sk dc ov [y100,(2:Int),y102,y103,y104,y105] m108 T107 T109)(h7:inR (1200*m108)∧inR (tot+1200*m108))(h8:inR (((i+1):Nat):Int))(etot':tot'=(tot+1200*m108))(ei':i'=(i+1))(et'e:aF t'=(aF T109))(et'k:t'.length=T109.length):aC Tp 7 eA (bL dl sk dc ov s0 s1 out tot i (aF t) t.length) .normal (bL dl sk dc ov s0 s1 true tot' i' (aF t') t'.length):=by
 subst etot' ei';have raw:aC Tp 7 eA (bL dl sk dc ov s0 s1 out tot i (aF t) t.length) .normal (bL dl sk dc ov s0 s1 true (tot+1200*m108) (i+1) (aF T109) T109.length):=aC.fin (g:=⟨(rng [(0,4),(10,11),(24,26)]),[7,8],[],[(8,0)]⟩) (o:=[bT,.x (dcE y100 2 y102 y103 y104 y105),.c (pB b106) (vU dl sk dc ov T107),bT,bT,bT,bT,bT,.c (.agg [(.fn 212 [] []),(.fn 213 [] []),(.fn 214 [] []),(.fn 215 [] []),(.fn 212 [] [])]) [],.c (pI m108) (vU dl sk dc ov T109),.c (pI (tot+1200*m108)) []]) (l:=[_,_,FC Tp 160 [(.p (dcE y100 2 y102 y103 y104 y105)),(.ptr 2 0)] [(2,vB2),(4,(.box 207 [(.mp 3)])),(5,(vB5 dl sk dc)),(0,(vB0 dl sk dc)),(6,vB6),(1,(.box 33 [(.p ov)])),(3,(.mp (aF T107) T107.length))] 18 (pI m108) (vU dl sk dc ov T109),_,FC Tp 183 [] [] 10 (.agg [(.fn 212 [] []),(.fn 213 [] []),(.fn 214 [] []),(.fn 215 [] []),(.fn 212 [] [])]) [],_,_,_,_,_,FC Tp 136 [fT,(.p (dcE y100 2 y102 y103 y104 y105)),(pI s0)] [(4,(.box 207 [(.mp 3)])),(5,(vB5 dl sk dc)),(0,(vB0 dl sk dc)),(2,vB2),(6,vB6),(1,(.box 33 [(.p ov)])),(3,(.mp (aF t) t.length))] 10 (pB b106) (vU dl sk dc ov T107),_,_,0≤(i:Int)∧(i:Int)<(dc.length:Int)∧(i*6)<(dc.flatten.map aA).length,_]) (by kernel_rfl) (gc h8 (gc (fk 26 (bDb tot m108 h7) rfl) (gc (FMM.fc (ids:=[0,1,2,3,4,5,6]) h6 (by kernel_rfl)) (gc bCx (gc (FV.fc mY (by kernel_rfl)) (g4c h5 (gc h4 (gc (FMM.fc (ids:=[0,1,2,3,4,5,6]) h3 (by kernel_rfl)) (gc (aV (i:=i) h2 h1) (gc (bG (i:=i) h2 h1) (gc (bZ (k:=6) (i:=(i:Int)) (by decide) h2 (kQ3 _) h1) (gc (bD h0) gn))))))))))))
 exact raw.cast (by rw [et'e,et'k])
theorem aWi{ov:PV}{s0 s1:Int}{out:Bool}{tot:Int}{i:Nat}{t:Lqb}{y100 y102 y103 y104 y105:Int}{b106:Bool}{T107:Lqb}{m108:Int}{T109:Lqb}{out':Bool}{tot':Int}{i':Nat}{t':Lqb}(h0:(i:Int)<(dc.length:Int))(h1:dc[i]? = some [y100,(2:Int),y102,y103,y104,y105])(h2:uni 6 dc)(h3:yG dl sk dc ov [y100,(2:Int),y102,y103,y104,y105] s0 b106 t T107)(h4:b106=true)(h5:out=false)(h6:yI dl sk dc ov [y100,(2:Int),y102,y103,y104,y105] m108 T107 T109)(h7:inR (1200*m108)∧inR (tot+1200*m108))(h8:inR (((i+1):Nat):Int))(eout':out'=((2:Int) == (3:Int)))(etot':tot'=(tot+1200*m108))(ei':i'=(i+1))(et'e:aF t'=(aF T109))(et'k:t'.length=T109.length):aC Tp 7 eA (bL dl sk dc ov s0 s1 out tot i (aF t) t.length) .normal (bL dl sk dc ov s0 s1 out' tot' i' (aF t') t'.length):=by
 subst eout' etot' ei';have raw:aC Tp 7 eA (bL dl sk dc ov s0 s1 out tot i (aF t) t.length) .normal (bL dl sk dc ov s0 s1 ((2:Int) == (3:Int)) (tot+1200*m108) (i+1) (aF T109) T109.length):=aC.fin (g:=⟨(rng [(0,4),(10,11),(24,26)]),[7,8],[],[]⟩) (o:=[bT,.x (dcE y100 2 y102 y103 y104 y105),.c (pB b106) (vU dl sk dc ov T107),bT,bF,bF,bF,bF,.c (.agg [(.fn 212 [] []),(.fn 213 [] []),(.fn 214 [] []),(.fn 215 [] []),(.fn 212 [] [])]) [],.c (pI m108) (vU dl sk dc ov T109),.c (pI (tot+1200*m108)) []]) (l:=[_,_,FC Tp 160 [(.p (dcE y100 2 y102 y103 y104 y105)),(.ptr 2 0)] [(2,vB2),(4,(.box 207 [(.mp 3)])),(5,(vB5 dl sk dc)),(0,(vB0 dl sk dc)),(6,vB6),(1,(.box 33 [(.p ov)])),(3,(.mp (aF T107) T107.length))] 18 (pI m108) (vU dl sk dc ov T109),_,FC Tp 183 [] [] 10 (.agg [(.fn 212 [] []),(.fn 213 [] []),(.fn 214 [] []),(.fn 215 [] []),(.fn 212 [] [])]) [],_,_,_,_,_,FC Tp 136 [fT,(.p (dcE y100 2 y102 y103 y104 y105)),(pI s0)] [(4,(.box 207 [(.mp 3)])),(5,(vB5 dl sk dc)),(0,(vB0 dl sk dc)),(2,vB2),(6,vB6),(1,(.box 33 [(.p ov)])),(3,(.mp (aF t) t.length))] 10 (pB b106) (vU dl sk dc ov T107),_,_,0≤(i:Int)∧(i:Int)<(dc.length:Int)∧(i*6)<(dc.flatten.map aA).length,_]) (by kernel_rfl) (gc h8 (gc (fk 26 (bDb tot m108 h7) rfl) (gc (FMM.fc (ids:=[0,1,2,3,4,5,6]) h6 (by kernel_rfl)) (gc bCx (gc (FV.fc mY (by kernel_rfl)) (g4c h5 (gc h4 (gc (FMM.fc (ids:=[0,1,2,3,4,5,6]) h3 (by kernel_rfl)) (gc (aV (i:=i) h2 h1) (gc (bG (i:=i) h2 h1) (gc (bZ (k:=6) (i:=(i:Int)) (by decide) h2 (kQ3 _) h1) (gc (bD h0) gn))))))))))))
 exact raw.cast (by rw [et'e,et'k])
theorem aWj{ov:PV}{s0 s1:Int}{out:Bool}{tot:Int}{i:Nat}{t:Lqb}{y100 y102 y103 y104 y105:Int}{b106:Bool}{T107:Lqb}{m108:Int}{T109:Lqb}{i':Nat}{t':Lqb}(h0:(i:Int)<(dc.length:Int))(h1:dc[i]? = some [y100,(3:Int),y102,y103,y104,y105])(h2:uni 6 dc)(h3:yG dl sk dc ov [y100,(3:Int),y102,y103,y104,y105] s0 b106 t T107)(h4:b106=true)(h5:out=true)(h6:yI dl sk dc ov [y100,(3:Int),y102,y103,y104,y105] m108 T107 T109)(h7:inR (((i+1):Nat):Int))(ei':i'=(i+1))(et'e:aF t'=(aF T109))(et'k:t'.length=T109.length):aC Tp 7 eA (bL dl sk dc ov s0 s1 out tot i (aF t) t.length) .normal (bL dl sk dc ov s0 s1 true tot i' (aF t') t'.length):=by
 subst ei';have raw:aC Tp 7 eA (bL dl sk dc ov s0 s1 out tot i (aF t) t.length) .normal (bL dl sk dc ov s0 s1 true tot (i+1) (aF T109) T109.length):=aC.fin (g:=⟨(rng [(0,4),(10,11),(24,26)]),[7,8],[],[(8,0)]⟩) (o:=[bT,.x (dcE y100 3 y102 y103 y104 y105),.c (pB b106) (vU dl sk dc ov T107),bT,bT,bT,bT,bT,.c (.agg [(.fn 212 [] []),(.fn 213 [] []),(.fn 214 [] []),(.fn 215 [] []),(.fn 212 [] [])]) [],.c (pI m108) (vU dl sk dc ov T109),.c (pI tot) []]) (l:=[_,_,FC Tp 160 [(.p (dcE y100 3 y102 y103 y104 y105)),(.ptr 2 0)] [(2,vB2),(4,(.box 207 [(.mp 3)])),(5,(vB5 dl sk dc)),(0,(vB0 dl sk dc)),(6,vB6),(1,(.box 33 [(.p ov)])),(3,(.mp (aF T107) T107.length))] 18 (pI m108) (vU dl sk dc ov T109),_,FC Tp 183 [] [] 10 (.agg [(.fn 212 [] []),(.fn 213 [] []),(.fn 214 [] []),(.fn 215 [] []),(.fn 212 [] [])]) [],_,_,_,_,_,FC Tp 136 [fT,(.p (dcE y100 3 y102 y103 y104 y105)),(pI s0)] [(4,(.box 207 [(.mp 3)])),(5,(vB5 dl sk dc)),(0,(vB0 dl sk dc)),(2,vB2),(6,vB6),(1,(.box 33 [(.p ov)])),(3,(.mp (aF t) t.length))] 10 (pB b106) (vU dl sk dc ov T107),_,_,0≤(i:Int)∧(i:Int)<(dc.length:Int)∧(i*6)<(dc.flatten.map aA).length,_]) (by kernel_rfl) (gc h7 (gc (fk 26 (bDc tot m108) rfl) (gc (FMM.fc (ids:=[0,1,2,3,4,5,6]) h6 (by kernel_rfl)) (gc bCy (gc (FV.fc mY (by kernel_rfl)) (g4c h5 (gc h4 (gc (FMM.fc (ids:=[0,1,2,3,4,5,6]) h3 (by kernel_rfl)) (gc (aV (i:=i) h2 h1) (gc (bG (i:=i) h2 h1) (gc (bZ (k:=6) (i:=(i:Int)) (by decide) h2 (kQ3 _) h1) (gc (bD h0) gn))))))))))))
 exact raw.cast (by rw [et'e,et'k])
theorem aWk{ov:PV}{s0 s1:Int}{out:Bool}{tot:Int}{i:Nat}{t:Lqb}{y100 y102 y103 y104 y105:Int}{b106:Bool}{T107:Lqb}{m108:Int}{T109:Lqb}{out':Bool}{i':Nat}{t':Lqb}(h0:(i:Int)<(dc.length:Int))(h1:dc[i]? = some [y100,(3:Int),y102,y103,y104,y105])(h2:uni 6 dc)(h3:yG dl sk dc ov [y100,(3:Int),y102,y103,y104,y105] s0 b106 t T107)(h4:b106=true)(h5:out=false)(h6:yI dl sk dc ov [y100,(3:Int),y102,y103,y104,y105] m108 T107 T109)(h7:inR (((i+1):Nat):Int))(eout':out'=((3:Int) == (3:Int)))(ei':i'=(i+1))(et'e:aF t'=(aF T109))(et'k:t'.length=T109.length):aC Tp 7 eA (bL dl sk dc ov s0 s1 out tot i (aF t) t.length) .normal (bL dl sk dc ov s0 s1 out' tot i' (aF t') t'.length):=by
 subst eout' ei';have raw:aC Tp 7 eA (bL dl sk dc ov s0 s1 out tot i (aF t) t.length) .normal (bL dl sk dc ov s0 s1 ((3:Int) == (3:Int)) tot (i+1) (aF T109) T109.length):=aC.fin (g:=⟨(rng [(0,4),(10,11),(24,26)]),[7,8],[],[]⟩) (o:=[bT,.x (dcE y100 3 y102 y103 y104 y105),.c (pB b106) (vU dl sk dc ov T107),bT,bF,bF,bF,bF,.c (.agg [(.fn 212 [] []),(.fn 213 [] []),(.fn 214 [] []),(.fn 215 [] []),(.fn 212 [] [])]) [],.c (pI m108) (vU dl sk dc ov T109),.c (pI tot) []]) (l:=[_,_,FC Tp 160 [(.p (dcE y100 3 y102 y103 y104 y105)),(.ptr 2 0)] [(2,vB2),(4,(.box 207 [(.mp 3)])),(5,(vB5 dl sk dc)),(0,(vB0 dl sk dc)),(6,vB6),(1,(.box 33 [(.p ov)])),(3,(.mp (aF T107) T107.length))] 18 (pI m108) (vU dl sk dc ov T109),_,FC Tp 183 [] [] 10 (.agg [(.fn 212 [] []),(.fn 213 [] []),(.fn 214 [] []),(.fn 215 [] []),(.fn 212 [] [])]) [],_,_,_,_,_,FC Tp 136 [fT,(.p (dcE y100 3 y102 y103 y104 y105)),(pI s0)] [(4,(.box 207 [(.mp 3)])),(5,(vB5 dl sk dc)),(0,(vB0 dl sk dc)),(2,vB2),(6,vB6),(1,(.box 33 [(.p ov)])),(3,(.mp (aF t) t.length))] 10 (pB b106) (vU dl sk dc ov T107),_,_,0≤(i:Int)∧(i:Int)<(dc.length:Int)∧(i*6)<(dc.flatten.map aA).length,_]) (by kernel_rfl) (gc h7 (gc (fk 26 (bDc tot m108) rfl) (gc (FMM.fc (ids:=[0,1,2,3,4,5,6]) h6 (by kernel_rfl)) (gc bCy (gc (FV.fc mY (by kernel_rfl)) (g4c h5 (gc h4 (gc (FMM.fc (ids:=[0,1,2,3,4,5,6]) h3 (by kernel_rfl)) (gc (aV (i:=i) h2 h1) (gc (bG (i:=i) h2 h1) (gc (bZ (k:=6) (i:=(i:Int)) (by decide) h2 (kQ3 _) h1) (gc (bD h0) gn))))))))))))
 exact raw.cast (by rw [et'e,et'k])
theorem aWl{ov:PV}{s0 s1:Int}{out:Bool}{tot:Int}{i:Nat}{t:Lqb}{y100 y102 y103 y104 y105:Int}{b106:Bool}{T107:Lqb}{m108:Int}{T109:Lqb}{tot':Int}{i':Nat}{t':Lqb}(h0:(i:Int)<(dc.length:Int))(h1:dc[i]? = some [y100,(4:Int),y102,y103,y104,y105])(h2:uni 6 dc)(h3:yG dl sk dc ov [y100,(4:Int),y102,y103,y104,y105] s0 b106 t T107)(h4:b106=true)(h5:out=true)(h6:yI dl sk dc ov [y100,(4:Int),y102,y103,y104,y105] m108 T107 T109)(h7:inR (tot+m108))(h8:inR (((i+1):Nat):Int))(etot':tot'=(tot+m108))(ei':i'=(i+1))(et'e:aF t'=(aF T109))(et'k:t'.length=T109.length):aC Tp 7 eA (bL dl sk dc ov s0 s1 out tot i (aF t) t.length) .normal (bL dl sk dc ov s0 s1 true tot' i' (aF t') t'.length):=by
 subst etot' ei';have raw:aC Tp 7 eA (bL dl sk dc ov s0 s1 out tot i (aF t) t.length) .normal (bL dl sk dc ov s0 s1 true (tot+m108) (i+1) (aF T109) T109.length):=aC.fin (g:=⟨(rng [(0,4),(10,11),(24,26)]),[7,8],[],[(8,0)]⟩) (o:=[bT,.x (dcE y100 4 y102 y103 y104 y105),.c (pB b106) (vU dl sk dc ov T107),bT,bT,bT,bT,bT,.c (.agg [(.fn 212 [] []),(.fn 213 [] []),(.fn 214 [] []),(.fn 215 [] []),(.fn 212 [] [])]) [],.c (pI m108) (vU dl sk dc ov T109),.c (pI (tot+m108)) []]) (l:=[_,_,FC Tp 160 [(.p (dcE y100 4 y102 y103 y104 y105)),(.ptr 2 0)] [(2,vB2),(4,(.box 207 [(.mp 3)])),(5,(vB5 dl sk dc)),(0,(vB0 dl sk dc)),(6,vB6),(1,(.box 33 [(.p ov)])),(3,(.mp (aF T107) T107.length))] 18 (pI m108) (vU dl sk dc ov T109),_,FC Tp 183 [] [] 10 (.agg [(.fn 212 [] []),(.fn 213 [] []),(.fn 214 [] []),(.fn 215 [] []),(.fn 212 [] [])]) [],_,_,_,_,_,FC Tp 136 [fT,(.p (dcE y100 4 y102 y103 y104 y105)),(pI s0)] [(4,(.box 207 [(.mp 3)])),(5,(vB5 dl sk dc)),(0,(vB0 dl sk dc)),(2,vB2),(6,vB6),(1,(.box 33 [(.p ov)])),(3,(.mp (aF t) t.length))] 10 (pB b106) (vU dl sk dc ov T107),_,_,0≤(i:Int)∧(i:Int)<(dc.length:Int)∧(i*6)<(dc.flatten.map aA).length,_]) (by kernel_rfl) (gc h8 (gc (fk 26 (aGu tot m108 h7) rfl) (gc (FMM.fc (ids:=[0,1,2,3,4,5,6]) h6 (by kernel_rfl)) (gc bCz (gc (FV.fc mY (by kernel_rfl)) (g4c h5 (gc h4 (gc (FMM.fc (ids:=[0,1,2,3,4,5,6]) h3 (by kernel_rfl)) (gc (aV (i:=i) h2 h1) (gc (bG (i:=i) h2 h1) (gc (bZ (k:=6) (i:=(i:Int)) (by decide) h2 (kQ3 _) h1) (gc (bD h0) gn))))))))))))
 exact raw.cast (by rw [et'e,et'k])
theorem aWm{ov:PV}{s0 s1:Int}{out:Bool}{tot:Int}{i:Nat}{t:Lqb}{y100 y102 y103 y104 y105:Int}{b106:Bool}{T107:Lqb}{m108:Int}{T109:Lqb}{out':Bool}{tot':Int}{i':Nat}{t':Lqb}(h0:(i:Int)<(dc.length:Int))(h1:dc[i]? = some [y100,(4:Int),y102,y103,y104,y105])(h2:uni 6 dc)(h3:yG dl sk dc ov [y100,(4:Int),y102,y103,y104,y105] s0 b106 t T107)(h4:b106=true)(h5:out=false)(h6:yI dl sk dc ov [y100,(4:Int),y102,y103,y104,y105] m108 T107 T109)(h7:inR (tot+m108))(h8:inR (((i+1):Nat):Int))(eout':out'=((4:Int) == (3:Int)))(etot':tot'=(tot+m108))(ei':i'=(i+1))(et'e:aF t'=(aF T109))(et'k:t'.length=T109.length):aC Tp 7 eA (bL dl sk dc ov s0 s1 out tot i (aF t) t.length) .normal (bL dl sk dc ov s0 s1 out' tot' i' (aF t') t'.length):=by
 subst eout' etot' ei';have raw:aC Tp 7 eA (bL dl sk dc ov s0 s1 out tot i (aF t) t.length) .normal (bL dl sk dc ov s0 s1 ((4:Int) == (3:Int)) (tot+m108) (i+1) (aF T109) T109.length):=aC.fin (g:=⟨(rng [(0,4),(10,11),(24,26)]),[7,8],[],[]⟩) (o:=[bT,.x (dcE y100 4 y102 y103 y104 y105),.c (pB b106) (vU dl sk dc ov T107),bT,bF,bF,bF,bF,.c (.agg [(.fn 212 [] []),(.fn 213 [] []),(.fn 214 [] []),(.fn 215 [] []),(.fn 212 [] [])]) [],.c (pI m108) (vU dl sk dc ov T109),.c (pI (tot+m108)) []]) (l:=[_,_,FC Tp 160 [(.p (dcE y100 4 y102 y103 y104 y105)),(.ptr 2 0)] [(2,vB2),(4,(.box 207 [(.mp 3)])),(5,(vB5 dl sk dc)),(0,(vB0 dl sk dc)),(6,vB6),(1,(.box 33 [(.p ov)])),(3,(.mp (aF T107) T107.length))] 18 (pI m108) (vU dl sk dc ov T109),_,FC Tp 183 [] [] 10 (.agg [(.fn 212 [] []),(.fn 213 [] []),(.fn 214 [] []),(.fn 215 [] []),(.fn 212 [] [])]) [],_,_,_,_,_,FC Tp 136 [fT,(.p (dcE y100 4 y102 y103 y104 y105)),(pI s0)] [(4,(.box 207 [(.mp 3)])),(5,(vB5 dl sk dc)),(0,(vB0 dl sk dc)),(2,vB2),(6,vB6),(1,(.box 33 [(.p ov)])),(3,(.mp (aF t) t.length))] 10 (pB b106) (vU dl sk dc ov T107),_,_,0≤(i:Int)∧(i:Int)<(dc.length:Int)∧(i*6)<(dc.flatten.map aA).length,_]) (by kernel_rfl) (gc h8 (gc (fk 26 (aGu tot m108 h7) rfl) (gc (FMM.fc (ids:=[0,1,2,3,4,5,6]) h6 (by kernel_rfl)) (gc bCz (gc (FV.fc mY (by kernel_rfl)) (g4c h5 (gc h4 (gc (FMM.fc (ids:=[0,1,2,3,4,5,6]) h3 (by kernel_rfl)) (gc (aV (i:=i) h2 h1) (gc (bG (i:=i) h2 h1) (gc (bZ (k:=6) (i:=(i:Int)) (by decide) h2 (kQ3 _) h1) (gc (bD h0) gn))))))))))))
 exact raw.cast (by rw [et'e,et'k])
theorem aOl{ov:PV}{s0 s1:Int}{out:Bool}{tot:Int}{i:Nat}{t:Lqb}{y100 y101 y102 y103 y104 y105:Int}{b106:Bool}{T107:Lqb}{i':Nat}{t':Lqb}(h0:(i:Int)<(dc.length:Int))(h1:dc[i]? = some [y100,y101,y102,y103,y104,y105])(h2:uni 6 dc)(h3:yG dl sk dc ov [y100,y101,y102,y103,y104,y105] s0 b106 t T107)(h4:b106=false)(h5:inR (((i+1):Nat):Int))(ei':i'=(i+1))(et'e:aF t'=(aF T107))(et'k:t'.length=T107.length):aC Tp 7 eA (bL dl sk dc ov s0 s1 out tot i (aF t) t.length) .normal (bL dl sk dc ov s0 s1 out tot i' (aF t') t'.length):=by
 subst ei';have raw:aC Tp 7 eA (bL dl sk dc ov s0 s1 out tot i (aF t) t.length) .normal (bL dl sk dc ov s0 s1 out tot (i+1) (aF T107) T107.length):=aC.fin (g:=⟨(rng [(0,4),(10,11),(24,26)]),[7,8],[],[]⟩) (o:=[bT,.x (dcE y100 y101 y102 y103 y104 y105),.c (pB b106) (vU dl sk dc ov T107),bF]) (l:=[_,_,FC Tp 136 [fT,(.p (dcE y100 y101 y102 y103 y104 y105)),(pI s0)] [(4,(.box 207 [(.mp 3)])),(5,(vB5 dl sk dc)),(0,(vB0 dl sk dc)),(2,vB2),(6,vB6),(1,(.box 33 [(.p ov)])),(3,(.mp (aF t) t.length))] 10 (pB b106) (vU dl sk dc ov T107),_,_,0≤(i:Int)∧(i:Int)<(dc.length:Int)∧(i*6)<(dc.flatten.map aA).length,_]) (by kernel_rfl) (gc h5 (gc h4 (gc (FMM.fc (ids:=[0,1,2,3,4,5,6]) h3 (by kernel_rfl)) (gc (aV (i:=i) h2 h1) (gc (bG (i:=i) h2 h1) (gc (bZ (k:=6) (i:=(i:Int)) (by decide) h2 (kQ3 _) h1) (gc (bD h0) gn)))))))
 exact raw.cast (by rw [et'e,et'k])
theorem aOm{ov:PV}{s0 s1:Int}{out:Bool}{tot:Int}{i:Nat}{t:Lqb}(h0:(dc.length:Int)≤(i:Int)):aC Tp 7 eA (bL dl sk dc ov s0 s1 out tot i (aF t) t.length) (.exit 0) (bL dl sk dc ov s0 s1 out tot i (aF t) t.length):=by
 exact aC.fin (g:=⟨(rng [(0,4),(10,11),(24,26)]),[7,8],[],[]⟩) (o:=[bF]) (l:=[_]) (by kernel_rfl) (gc (bU h0) gn)
def eL(dl:Int)(sk:Lqq)(dc:Lqq)(on:Nat)(oc:List PV)(i:Nat)(te:List (Value × PV))(tk:Nat):St:=⟨fr 48 [(2,(.p bX)),(3,(.ptr 7 0)),(4,(.own 8)),(15,(.p (fS dc))),(16,(pI (dc.length:Int))),(17,(pI (i:Int)))],[some (vB0 dl sk dc),some (.box 33 [(.p bX)]),some vB2,some (.mp te tk),some (.box 207 [(.mp 3)]),some (vB5 dl sk dc),some vB6,some vB2,some (.row 3 on oc)]⟩
theorem bPo{o'0:List Int}{i'1:Nat}{t'2:Lqb}(hl0:aM Tp 0 mX (eL dl sk dc 0 [] 0 (aF ([]:Lqb)) 0) (.exit 0) (eL dl sk dc o'0.length (o'0.map aA) i'1 (aF t'2) t'2.length)){base:Nat}:FV Tp 83 [(.rp (aI dl sk dc) 0)] base (.own base) [(base,(.row 3 o'0.length (o'0.map aA)))]:=by
 exact FV.fin Tryz.func83 rfl (o:=[.c fT (vU dl sk dc bX ([]:Lqb)),.x (fS dc),.k 1 ⟨(rng [(0,2),(5,10),(18,29)]),[0,1,2,3,4,5,6,7,8],[],[(4,3)]⟩ (.exit 0) (eL dl sk dc o'0.length (o'0.map aA) i'1 (aF t'2) t'2.length)]) (l:=[_,(aI dl sk dc)[2]? = some (fS dc),FC Tp 87 [(.rp (aI dl sk dc) 0),(.p bX)] [] 0 fT (vU dl sk dc bX ([]:Lqb))]) (by kernel_rfl) (gc hl0.code (gc rfl (gc (FMM.fcN (k:=7) rfl (ids:=[]) (yT (dl:=dl) (sk:=sk) (dc:=dc)) (by kernel_rfl)) gn)))
theorem aWn{o:List Int}{i:Nat}{t:Lqb}{y100 y101 y102 y103 y104 y105 z106 z107 z108 z109 z110 z111:Int}{b112:Bool}{T113:Lqb}{b114:Bool}{T115:Lqb}{o':List Int}{i':Nat}{t':Lqb}(h0:(i:Int)<(dc.length:Int))(h1:dc[i]? = some [y100,y101,y102,y103,y104,y105])(h2:uni 6 dc)(h3:aKh dl sk dc bX [y100,y101,y102,y103,y104,y105] [z106,z107,z108,z109,z110,z111] b112 t T113)(h4:(fU y101)=true)(h5:pO dl sk dc bX [y100,y101,y102,y103,y104,y105] b114 T113 T115)(h6:b114=true)(h7:b112=false)(h8:[(aA y100)].length=1*1∧o.length+1≤1000000)(h9:inR (((i+1):Nat):Int))(eo'n:o'.length=(o.length+1))(eo'c:o'.map aA=((o.map aA)++[(aA y100)]))(ei':i'=(i+1))(et'e:aF t'=(aF T115))(et'k:t'.length=T115.length):aC Tp 0 mX (eL dl sk dc o.length (o.map aA) i (aF t) t.length) .normal (eL dl sk dc o'.length (o'.map aA) i' (aF t') t'.length):=by
 subst ei';have raw:aC Tp 0 mX (eL dl sk dc o.length (o.map aA) i (aF t) t.length) .normal (eL dl sk dc (o.length+1) ((o.map aA)++[(aA y100)]) (i+1) (aF T115) T115.length):=aC.fin (g:=⟨(rng [(0,2),(5,10),(18,29)]),[0,1,2,3,4,5,6,7,12],[],[]⟩) (o:=[bT,.x (dcE y100 y101 y102 y103 y104 y105),.c (.tup [(.p (dcE z106 z107 z108 z109 z110 z111)),(pB b112)]) (vU dl sk dc bX T113),.c (pB (fU y101)) [],bT,bT,bT,bT,.c (pB b114) (vU dl sk dc bX T115),bT,bT,bT,bT,bT]) (l:=[_,_,_,_,_,_,_,FC Tp 154 [(.p (dcE y100 y101 y102 y103 y104 y105)),(.ptr 4 0),(.ptr 5 0),(.ptr 0 0),(.ptr 2 0)] [(4,(.box 207 [(.mp 3)])),(5,(vB5 dl sk dc)),(0,(vB0 dl sk dc)),(2,vB2),(3,(.mp (aF T113) T113.length)),(6,vB6),(1,(.box 33 [(.p bX)]))] 11 (pB b114) (vU dl sk dc bX T115),_,_,_,_,_,FC Tp 156 [(.p (dcE y100 y101 y102 y103 y104 y105)),(.ptr 6 0)] [(6,vB6),(0,(vB0 dl sk dc)),(2,vB2),(4,(.box 207 [(.mp 3)])),(5,(vB5 dl sk dc)),(1,(.box 33 [(.p bX)])),(3,(.mp (aF t) t.length))] 10 (.tup [(.p (dcE z106 z107 z108 z109 z110 z111)),(pB b112)]) (vU dl sk dc bX T113),_,_,0≤(i:Int)∧(i:Int)<(dc.length:Int)∧(i*6)<(dc.flatten.map aA).length,_]) (by kernel_rfl) (gc h9 (gc h8 (gc (cQ h7) (g3c h6 (gc h4 (gc (FMM.fc (ids:=[0,1,2,3,4,5,6]) h5 (by kernel_rfl)) (g4c h4 (gc (fk 11 (wF y101) rfl) (gc (FMM.fc (ids:=[0,1,2,3,4,5,6]) h3 (by kernel_rfl)) (gc (aV (i:=i) h2 h1) (gc (bG (i:=i) h2 h1) (gc (bZ (k:=6) (i:=(i:Int)) (by decide) h2 (kQ3 _) h1) (gc (bD h0) gn)))))))))))))
 exact raw.cast (by rw [eo'n,eo'c,et'e,et'k])
theorem aWo{o:List Int}{i:Nat}{t:Lqb}{y100 y101 y102 y103 y104 y105 z106 z107 z108 z109 z110 z111:Int}{b112:Bool}{T113:Lqb}{b114:Bool}{T115:Lqb}{i':Nat}{t':Lqb}(h0:(i:Int)<(dc.length:Int))(h1:dc[i]? = some [y100,y101,y102,y103,y104,y105])(h2:uni 6 dc)(h3:aKh dl sk dc bX [y100,y101,y102,y103,y104,y105] [z106,z107,z108,z109,z110,z111] b112 t T113)(h4:(fU y101)=true)(h5:pO dl sk dc bX [y100,y101,y102,y103,y104,y105] b114 T113 T115)(h6:b114=true)(h7:b112=true)(h8:inR (((i+1):Nat):Int))(ei':i'=(i+1))(et'e:aF t'=(aF T115))(et'k:t'.length=T115.length):aC Tp 0 mX (eL dl sk dc o.length (o.map aA) i (aF t) t.length) .normal (eL dl sk dc o.length (o.map aA) i' (aF t') t'.length):=by
 subst ei';have raw:aC Tp 0 mX (eL dl sk dc o.length (o.map aA) i (aF t) t.length) .normal (eL dl sk dc o.length (o.map aA) (i+1) (aF T115) T115.length):=aC.fin (g:=⟨(rng [(0,2),(5,10),(18,29)]),[0,1,2,3,4,5,6,7,8],[],[]⟩) (o:=[bT,.x (dcE y100 y101 y102 y103 y104 y105),.c (.tup [(.p (dcE z106 z107 z108 z109 z110 z111)),(pB b112)]) (vU dl sk dc bX T113),.c (pB (fU y101)) [],bT,bT,bT,bT,.c (pB b114) (vU dl sk dc bX T115),bT,bT,bT,bT,bF]) (l:=[_,_,_,_,_,_,FC Tp 154 [(.p (dcE y100 y101 y102 y103 y104 y105)),(.ptr 4 0),(.ptr 5 0),(.ptr 0 0),(.ptr 2 0)] [(4,(.box 207 [(.mp 3)])),(5,(vB5 dl sk dc)),(0,(vB0 dl sk dc)),(2,vB2),(3,(.mp (aF T113) T113.length)),(6,vB6),(1,(.box 33 [(.p bX)]))] 11 (pB b114) (vU dl sk dc bX T115),_,_,_,_,_,FC Tp 156 [(.p (dcE y100 y101 y102 y103 y104 y105)),(.ptr 6 0)] [(6,vB6),(0,(vB0 dl sk dc)),(2,vB2),(4,(.box 207 [(.mp 3)])),(5,(vB5 dl sk dc)),(1,(.box 33 [(.p bX)])),(3,(.mp (aF t) t.length))] 10 (.tup [(.p (dcE z106 z107 z108 z109 z110 z111)),(pB b112)]) (vU dl sk dc bX T113),_,_,0≤(i:Int)∧(i:Int)<(dc.length:Int)∧(i*6)<(dc.flatten.map aA).length,_]) (by kernel_rfl) (gc h8 (gc (aX h7) (g3c h6 (gc h4 (gc (FMM.fc (ids:=[0,1,2,3,4,5,6]) h5 (by kernel_rfl)) (g4c h4 (gc (fk 11 (wF y101) rfl) (gc (FMM.fc (ids:=[0,1,2,3,4,5,6]) h3 (by kernel_rfl)) (gc (aV (i:=i) h2 h1) (gc (bG (i:=i) h2 h1) (gc (bZ (k:=6) (i:=(i:Int)) (by decide) h2 (kQ3 _) h1) (gc (bD h0) gn))))))))))))
 exact raw.cast (by rw [et'e,et'k])
theorem aWp{o:List Int}{i:Nat}{t:Lqb}{y100 y101 y102 y103 y104 y105 z106 z107 z108 z109 z110 z111:Int}{b112:Bool}{T113:Lqb}{b114:Bool}{T115:Lqb}{i':Nat}{t':Lqb}(h0:(i:Int)<(dc.length:Int))(h1:dc[i]? = some [y100,y101,y102,y103,y104,y105])(h2:uni 6 dc)(h3:aKh dl sk dc bX [y100,y101,y102,y103,y104,y105] [z106,z107,z108,z109,z110,z111] b112 t T113)(h4:(fU y101)=true)(h5:pO dl sk dc bX [y100,y101,y102,y103,y104,y105] b114 T113 T115)(h6:b114=false)(h7:inR (((i+1):Nat):Int))(ei':i'=(i+1))(et'e:aF t'=(aF T115))(et'k:t'.length=T115.length):aC Tp 0 mX (eL dl sk dc o.length (o.map aA) i (aF t) t.length) .normal (eL dl sk dc o.length (o.map aA) i' (aF t') t'.length):=by
 subst ei';have raw:aC Tp 0 mX (eL dl sk dc o.length (o.map aA) i (aF t) t.length) .normal (eL dl sk dc o.length (o.map aA) (i+1) (aF T115) T115.length):=aC.fin (g:=⟨(rng [(0,2),(5,10),(18,29)]),[0,1,2,3,4,5,6,7,8],[],[]⟩) (o:=[bT,.x (dcE y100 y101 y102 y103 y104 y105),.c (.tup [(.p (dcE z106 z107 z108 z109 z110 z111)),(pB b112)]) (vU dl sk dc bX T113),.c (pB (fU y101)) [],bT,bT,bT,bT,.c (pB b114) (vU dl sk dc bX T115),bT,bF,bF,bF]) (l:=[_,_,_,_,_,FC Tp 154 [(.p (dcE y100 y101 y102 y103 y104 y105)),(.ptr 4 0),(.ptr 5 0),(.ptr 0 0),(.ptr 2 0)] [(4,(.box 207 [(.mp 3)])),(5,(vB5 dl sk dc)),(0,(vB0 dl sk dc)),(2,vB2),(3,(.mp (aF T113) T113.length)),(6,vB6),(1,(.box 33 [(.p bX)]))] 11 (pB b114) (vU dl sk dc bX T115),_,_,_,_,_,FC Tp 156 [(.p (dcE y100 y101 y102 y103 y104 y105)),(.ptr 6 0)] [(6,vB6),(0,(vB0 dl sk dc)),(2,vB2),(4,(.box 207 [(.mp 3)])),(5,(vB5 dl sk dc)),(1,(.box 33 [(.p bX)])),(3,(.mp (aF t) t.length))] 10 (.tup [(.p (dcE z106 z107 z108 z109 z110 z111)),(pB b112)]) (vU dl sk dc bX T113),_,_,0≤(i:Int)∧(i:Int)<(dc.length:Int)∧(i*6)<(dc.flatten.map aA).length,_]) (by kernel_rfl) (gc h7 (g3c h6 (gc h4 (gc (FMM.fc (ids:=[0,1,2,3,4,5,6]) h5 (by kernel_rfl)) (g4c h4 (gc (fk 11 (wF y101) rfl) (gc (FMM.fc (ids:=[0,1,2,3,4,5,6]) h3 (by kernel_rfl)) (gc (aV (i:=i) h2 h1) (gc (bG (i:=i) h2 h1) (gc (bZ (k:=6) (i:=(i:Int)) (by decide) h2 (kQ3 _) h1) (gc (bD h0) gn)))))))))))
 exact raw.cast (by rw [et'e,et'k])
theorem aWq{o:List Int}{i:Nat}{t:Lqb}{y100 y101 y102 y103 y104 y105 z106 z107 z108 z109 z110 z111:Int}{b112:Bool}{T113:Lqb}{i':Nat}{t':Lqb}(h0:(i:Int)<(dc.length:Int))(h1:dc[i]? = some [y100,y101,y102,y103,y104,y105])(h2:uni 6 dc)(h3:aKh dl sk dc bX [y100,y101,y102,y103,y104,y105] [z106,z107,z108,z109,z110,z111] b112 t T113)(h4:(fU y101)=false)(h5:inR (((i+1):Nat):Int))(ei':i'=(i+1))(et'e:aF t'=(aF T113))(et'k:t'.length=T113.length):aC Tp 0 mX (eL dl sk dc o.length (o.map aA) i (aF t) t.length) .normal (eL dl sk dc o.length (o.map aA) i' (aF t') t'.length):=by
 subst ei';have raw:aC Tp 0 mX (eL dl sk dc o.length (o.map aA) i (aF t) t.length) .normal (eL dl sk dc o.length (o.map aA) (i+1) (aF T113) T113.length):=aC.fin (g:=⟨(rng [(0,2),(5,10),(18,29)]),[0,1,2,3,4,5,6,7,8],[],[]⟩) (o:=[bT,.x (dcE y100 y101 y102 y103 y104 y105),.c (.tup [(.p (dcE z106 z107 z108 z109 z110 z111)),(pB b112)]) (vU dl sk dc bX T113),.c (pB (fU y101)) [],bF,bF,bF,bF,bF]) (l:=[_,_,_,_,_,_,_,FC Tp 156 [(.p (dcE y100 y101 y102 y103 y104 y105)),(.ptr 6 0)] [(6,vB6),(0,(vB0 dl sk dc)),(2,vB2),(4,(.box 207 [(.mp 3)])),(5,(vB5 dl sk dc)),(1,(.box 33 [(.p bX)])),(3,(.mp (aF t) t.length))] 10 (.tup [(.p (dcE z106 z107 z108 z109 z110 z111)),(pB b112)]) (vU dl sk dc bX T113),_,_,0≤(i:Int)∧(i:Int)<(dc.length:Int)∧(i*6)<(dc.flatten.map aA).length,_]) (by kernel_rfl) (gc h5 (g5c h4 (gc (fk 11 (wF y101) rfl) (gc (FMM.fc (ids:=[0,1,2,3,4,5,6]) h3 (by kernel_rfl)) (gc (aV (i:=i) h2 h1) (gc (bG (i:=i) h2 h1) (gc (bZ (k:=6) (i:=(i:Int)) (by decide) h2 (kQ3 _) h1) (gc (bD h0) gn))))))))
 exact raw.cast (by rw [et'e,et'k])
theorem aWr{o:List Int}{i:Nat}{t:Lqb}(h0:(dc.length:Int)≤(i:Int)):aC Tp 0 mX (eL dl sk dc o.length (o.map aA) i (aF t) t.length) (.exit 0) (eL dl sk dc o.length (o.map aA) i (aF t) t.length):=by
 exact aC.fin (g:=⟨(rng [(0,2),(5,10),(18,29)]),[0,1,2,3,4,5,6,7,8],[],[]⟩) (o:=[bF]) (l:=[_]) (by kernel_rfl) (gc (bU h0) gn)
end
section
def aOj(dl:Int)(oc:List Int)(dc:Lqq)(bib:Int)(x:List Int):Bool:=decide (dK x≤4) && (dB x == bib && (cK dl oc dc x && (!(dK x == 4) || aCx dl oc dc x)))
def byI(k t m:Int):Int:=if k=1 then t-m else if k=2 then t+1200*m else if k=3 then t else t+m
def aGt(dl:Int)(oc:List Int)(dc:Lqq)(bib:Int)(acc:Bool × Int)(x:List Int):Bool × Int:=if aOj dl oc dc bib x then (acc.1 || dK x == 3,byI (dK x) acc.2 (qO dl oc dc x)) else acc
def aWa(dl:Int)(oc:List Int)(dc:Lqq)(bib time:Int):Bool × Int:=dc.foldl (aGt dl oc dc bib) (time == -1,time)
def kB(dl:Int)(oc:List Int)(dc:Lqq)(bib time:Int):Int × Bool:=if (aWa dl oc dc bib time).1 then (0,true) else (max 0 (aWa dl oc dc bib time).2,false)
def pH(dl:Int)(dc:Lqq)(x:List Int):Bool:=fU (dK x) && (cK dl [] dc x && (tC dl [] dc x).isNone)
def aS(dl:Int)(dc:Lqq):List Int:=(dc.filter (pH dl dc)).map dN
section
variable {dl:Int} {sk dc:Lqq} {oc:List Int} {ov:PV}
theorem bIk(hd:cE dc)(hov:∀ n,qN ov n (oc.contains n)){x:List Int}(hx:x∈dc){T:Lqb}(hT:cD dl oc dc T):∃ T' z0 z1 z2 z3 z4 z5,cD dl oc dc T'∧(tC dl oc dc x).getD zero6=[z0,z1,z2,z3,z4,z5]∧aKh dl sk dc ov x [z0,z1,z2,z3,z4,z5] (tC dl oc dc x).isSome T T':=by
 obtain ⟨T',h1,h2⟩:=bUh (sk:=sk) hd hov hx T hT;cases hr:tC dl oc dc x with
 | none =>
  rw [hr] at h2
  exact ⟨T',0,0,0,0,0,0,h1,rfl,h2⟩
 | some z =>
  have hz:z.length=6:=by
   rw [aBj hd hx] at hr
   exact gX hd _ z (uJ hr)
  obtain ⟨a,b,c,d,e,f,rfl⟩:=len6 hz;rw [hr] at h2
  exact ⟨T',a,b,c,d,e,f,h1,rfl,h2⟩
theorem aKg(hd:cE dc):∀ (n:Nat) (x:List Int),x∈dc→10000-dN x≤(n:Int)→0≤qO dl oc dc x∧qO dl oc dc x≤36000
 | 0,x,hx,h=>by have:=fO hd hx;omega
 | n+1,x,hx,h=>by
  rw [aSa hd hx];cases hr:aHa dl oc dc x with
  | none =>
   have h4:=(gW.1 (hd.rng x hx)).2.2.2;have:jQ (x.getD 1 0)≤36000:=by unfold jQ;split <;> omega
   show 0≤x.getD 4 0∧x.getD 4 0≤36000;omega
  | some z =>
   have hz:z∈bY dc (dN x):=by
    rw [aBk hd hx] at hr
    exact uJ hr
   obtain ⟨a1,a2⟩:=qM hd hx hz;exact aKg hd n z a1 (by omega)
theorem bIl(hd:cE dc){x:List Int}(hx:x∈dc):0≤qO dl oc dc x∧qO dl oc dc x≤36000:=aKg hd 10000 x hx (by have:=fO hd hx;omega)
theorem bUg(hd:cE dc)(hov:∀ n,qN ov n (oc.contains n))(bib:Int){x:List Int}(hx:x∈dc){T:Lqb}(hT:cD dl oc dc T):∃ T',cD dl oc dc T'∧yG dl sk dc ov x bib (aOj dl oc dc bib x) T T':=by
 obtain ⟨T1,h1,c1⟩:=aWu (sk:=sk) hd hov hx T hT;obtain ⟨T2,h2,c2⟩:=bUj (sk:=sk) hd hov hx T1 h1;obtain ⟨a,k,c,d,e,f,rfl⟩:=len6 (hd.ud x hx);unfold aOj
 by_cases hk:k≤4
 ·have hk':decide (k≤4)=true:=decide_eq_true hk
  rw [show decide (dK [a,k,c,d,e,f]≤4)=true from hk',iH]
  by_cases hb:d=bib
  ·rw [show (dB [a,k,c,d,e,f] == bib)=true by simpa using hb,iH]
   cases hc:cK dl oc dc [a,k,c,d,e,f] with
   | false =>
    rw [hc] at c1
    exact ⟨T1,h1,bPe hk' hb c1 rfl⟩
   | true =>
    rw [hc] at c1
    rw [iH]
    by_cases h4:k=4
    ·rw [show (dK [a,k,c,d,e,f] == 4)=true by simpa using h4,Bool.not_true,Bool.false_or]
     exact ⟨T2,h2,bPd hk' hb c1 rfl h4 c2⟩
    ·rw [show (dK [a,k,c,d,e,f] == 4)=false by simpa using h4,Bool.not_false,Bool.true_or]
     exact ⟨T1,h1,bPc hk' hb c1 rfl h4⟩
  ·rw [show (dB [a,k,c,d,e,f] == bib)=false by simpa using hb,Bool.false_and]
   exact ⟨T,hT,bPf hk' hb⟩
 ·have hk':decide (k≤4)=false:=decide_eq_false hk
  rw [show decide (dK [a,k,c,d,e,f]≤4)=false from hk',Bool.false_and]
  exact ⟨T,hT,bPg hk'⟩
theorem bCu(hd:cE dc)(hov:∀ n,qN ov n (oc.contains n))(s0 s1:Int)(hs : -1≤s1∧s1≤360000){T:Lqb}(hT:cD dl oc dc T):∃ T',cD dl oc dc T'∧aCw dl sk dc ov [s0,s1] (kB dl oc dc s0 s1).1 (kB dl oc dc s0 s1).2 T T':=by
 have hlen:=hd.len;obtain ⟨acc,⟨h1,h2,_⟩,h3⟩:=aM.ex (P:=Tp) (k:=7) (b:=sub (cd Tryz.f134) [1,1,0,1,0,0]) (e := .exit 0) (fun i (a:(Bool × Int) × Lqb)=>bL dl sk dc ov s0 s1 a.1.1 a.1.2 i (aF a.2) a.2.length)
  (fun a=>bL dl sk dc ov s0 s1 a.1.1 a.1.2 dc.length (aF a.2) a.2.length)
  (fun i a=>cD dl oc dc a.2∧a.1=(dc.take i).foldl (aGt dl oc dc s0) (s1 == -1,s1) ∧ -1-36000*(i:Int)≤a.1.2∧a.1.2≤360000+43200000*(i:Int)) (by simp) dc.length
  (fun i acc hi hI=>by
   obtain ⟨⟨out,tot⟩,T1⟩:=acc;obtain ⟨h1,h2,h3,h4⟩:=hI;dsimp only at h1 h2 h3 h4
   have hm:=iA hi;obtain ⟨a,k,c,d,e,f,hy⟩:=len6 (hd.ud _ hm);have hx:dc[i]? = some [a,k,c,d,e,f]:=by rw [kQ0 hi,hy]
   rw [hy] at hm
   have et:(dc.take (i+1)).foldl (aGt dl oc dc s0) (s1 == -1,s1)=aGt dl oc dc s0 (out,tot) [a,k,c,d,e,f]:=by
    rw [List.take_add_one,hx,aJu,← h2];rfl
   obtain ⟨T2,q1,q2⟩:=bUg (sk:=sk) hd hov s0 hm h1;rw [et];unfold aGt;cases hh:aOj dl oc dc s0 [a,k,c,d,e,f] with
   | false =>
    rw [hh] at q2
    exact ⟨((out,tot),T2),⟨q1,by simp,by dsimp only;omega,by dsimp only;omega⟩,aOl (by omega) hx hd.ud q2 rfl (aP (by omega)) rfl rfl rfl⟩
   | true =>
    rw [hh] at q2
    rw [if_pos rfl];obtain ⟨T3,q3,q4⟩:=bUk (sk:=sk) hd hov hm T2 q1;have hb:=bIl (dl:=dl) (oc:=oc) hd hm;revert q4 hb;generalize qO dl oc dc [a,k,c,d,e,f]=m;intro q4 hb;have hk:0≤k∧k≤4:=by
     have h5:=(gW.1 (hd.rng _ hm)).2.1;unfold aOj at hh
     rw [kQ7] at hh
     exact ⟨h5.1,of_decide_eq_true hh.1⟩
    have hk5:k=0∨k=1∨k=2∨k=3∨k=4:=by omega
    clear hh
    rcases hk5 with rfl | rfl | rfl | rfl | rfl
    ·have hI:∀ q:Bool,-1-36000*((i+1:Nat):Int)≤tot+m∧tot+m≤360000+43200000*((i+1:Nat):Int):=fun _=>by omega
     cases out with
     | true=>exact ⟨((true,tot+m),T3),⟨q3,rfl,(hI true).1,(hI true).2⟩,aWd (by omega) hx hd.ud q2 rfl rfl q4 (by show inR (tot+m);unfold inR;omega) (aP (by omega)) rfl rfl rfl rfl⟩
     | false=>exact ⟨((false,tot+m),T3),⟨q3,rfl,(hI true).1,(hI true).2⟩,aWe (by omega) hx hd.ud q2 rfl rfl q4 (by show inR (tot+m);unfold inR;omega) (aP (by omega)) rfl rfl rfl rfl rfl⟩
    ·have hI:∀ q:Bool,-1-36000*((i+1:Nat):Int)≤tot-m∧tot-m≤360000+43200000*((i+1:Nat):Int):=fun _=>by omega
     cases out with
     | true=>exact ⟨((true,tot-m),T3),⟨q3,rfl,(hI true).1,(hI true).2⟩,aWf (by omega) hx hd.ud q2 rfl rfl q4 (by show inR (tot-m);unfold inR;omega) (aP (by omega)) rfl rfl rfl rfl⟩
     | false=>exact ⟨((false,tot-m),T3),⟨q3,rfl,(hI true).1,(hI true).2⟩,aWg (by omega) hx hd.ud q2 rfl rfl q4 (by show inR (tot-m);unfold inR;omega) (aP (by omega)) rfl rfl rfl rfl rfl⟩
    ·have hI:∀ q:Bool,-1-36000*((i+1:Nat):Int)≤tot+1200*m∧tot+1200*m≤360000+43200000*((i+1:Nat):Int):=fun _=>by omega
     cases out with
     | true=>exact ⟨((true,tot+1200*m),T3),⟨q3,rfl,(hI true).1,(hI true).2⟩,aWh (by omega) hx hd.ud q2 rfl rfl q4 ⟨by show inR (1200*m);unfold inR;omega,by show inR (tot+1200*m);unfold inR;omega⟩ (aP (by omega)) rfl rfl rfl rfl⟩
     | false=>exact ⟨((false,tot+1200*m),T3),⟨q3,rfl,(hI true).1,(hI true).2⟩,aWi (by omega) hx hd.ud q2 rfl rfl q4 ⟨by show inR (1200*m);unfold inR;omega,by show inR (tot+1200*m);unfold inR;omega⟩ (aP (by omega)) rfl rfl rfl rfl rfl⟩
    ·have hI:∀ q:Bool,-1-36000*((i+1:Nat):Int)≤tot∧tot≤360000+43200000*((i+1:Nat):Int):=fun _=>by omega
     cases out with
     | true=>exact ⟨((true,tot),T3),⟨q3,rfl,(hI true).1,(hI true).2⟩,aWj (by omega) hx hd.ud q2 rfl rfl q4 (aP (by omega)) rfl rfl rfl⟩
     | false=>exact ⟨((true,tot),T3),⟨q3,rfl,(hI true).1,(hI true).2⟩,aWk (by omega) hx hd.ud q2 rfl rfl q4 (aP (by omega)) rfl rfl rfl rfl⟩
    ·have hI:∀ q:Bool,-1-36000*((i+1:Nat):Int)≤tot+m∧tot+m≤360000+43200000*((i+1:Nat):Int):=fun _=>by omega
     cases out with
     | true=>exact ⟨((true,tot+m),T3),⟨q3,rfl,(hI true).1,(hI true).2⟩,aWl (by omega) hx hd.ud q2 rfl rfl q4 (by show inR (tot+m);unfold inR;omega) (aP (by omega)) rfl rfl rfl rfl⟩
     | false=>exact ⟨((false,tot+m),T3),⟨q3,rfl,(hI true).1,(hI true).2⟩,aWm (by omega) hx hd.ud q2 rfl rfl q4 (by show inR (tot+m);unfold inR;omega) (aP (by omega)) rfl rfl rfl rfl rfl⟩)
  (fun acc hI=>aOm (by omega)) (acc:=((s1 == -1,s1),T)) ⟨hT,by simp,by dsimp only;omega,by dsimp only;omega⟩
 obtain ⟨⟨out,tot⟩,T1⟩:=acc;dsimp only at h1 h2 h3
 rw [List.take_length] at h2
 have e:aWa dl oc dc s0 s1=(out,tot):=h2.symm;unfold kB;rw [e];cases out with
 | true=>exact ⟨T1,h1,bPm h3 rfl⟩
 | false=>exact ⟨T1,h1,bPn h3 rfl (by simp) (by simp [yH];omega)⟩
theorem qL(hd:cE dc){base:Nat}:FV Tp 83 [pK dl sk dc] base (.own base) [(base,.row 3 (aS dl dc).length ((aS dl dc).map aA))]:=by
 have hlen:=hd.len;have hov:=yS;obtain ⟨acc,⟨h1,h2⟩,h3⟩:=aM.ex (P:=Tp) (k:=0) (b:=sub (cd Tryz.f83) [1,1,1,0,1,0,0]) (e := .exit 0) (fun i (a:List Int × Lqb)=>eL dl sk dc a.1.length (a.1.map aA) i (aF a.2) a.2.length)
  (fun a=>eL dl sk dc a.1.length (a.1.map aA) dc.length (aF a.2) a.2.length)
  (fun i a=>cD dl [] dc a.2∧a.1=((dc.take i).filter (pH dl dc)).map dN) (by simp) dc.length
  (fun i acc hi hI=>by
   obtain ⟨o,T1⟩:=acc;obtain ⟨h1,h2⟩:=hI;dsimp only at h1 h2
   have hm:=iA hi;obtain ⟨a,k,c,d,e,f,hy⟩:=len6 (hd.ud _ hm);have hx:dc[i]? = some [a,k,c,d,e,f]:=by rw [kQ0 hi,hy]
   rw [hy] at hm
   have ho:o.length≤1000:=by
    rw [h2,eP];have:=vX (pH dl dc) (dc.take i);rw [lC] at this;omega
   have et:((dc.take (i+1)).filter (pH dl dc)).map dN=o++if pH dl dc [a,k,c,d,e,f] then [a] else []:=by
    rw [List.take_add_one,hx,oJ,iB,← h2]
    congr 1
    show (List.filter (pH dl dc) [[a,k,c,d,e,f]]).map dN=_;cases hq:pH dl dc [a,k,c,d,e,f] <;> simp [hq]
   rw [et];obtain ⟨T2,z0,z1,z2,z3,z4,z5,q1,_,q2⟩:=bIk (sk:=sk) hd hov hm h1;obtain ⟨T3,q3,q4⟩:=aWu (sk:=sk) hd hov hm T2 q1;cases ha:fU k with
   | false =>
    have hb:pH dl dc [a,k,c,d,e,f]=false:=by unfold pH;rw [show fU (dK [a,k,c,d,e,f])=false from ha,Bool.false_and]
    rw [hb];exact ⟨(o,T2),⟨q1,by simp⟩,aWq (by omega) hx hd.ud q2 ha (aP (by omega)) rfl rfl rfl⟩
   | true =>
    have hb:pH dl dc [a,k,c,d,e,f]=(cK dl [] dc [a,k,c,d,e,f] && (tC dl [] dc [a,k,c,d,e,f]).isNone):=by unfold pH;rw [show fU (dK [a,k,c,d,e,f])=true from ha,iH]
    rw [hb];cases hc:cK dl [] dc [a,k,c,d,e,f] with
    | false =>
     rw [hc] at q4
     exact ⟨(o,T3),⟨q3,by simp⟩,aWp (by omega) hx hd.ud q2 ha q4 rfl (aP (by omega)) rfl rfl rfl⟩
    | true =>
     rw [hc] at q4
     cases hr:tC dl [] dc [a,k,c,d,e,f] with
     | some z =>
      rw [hr] at q2
      exact ⟨(o,T3),⟨q3,by simp⟩,aWo (by omega) hx hd.ud q2 ha q4 rfl rfl (aP (by omega)) rfl rfl rfl⟩
     | none =>
      rw [hr] at q2
      exact ⟨(o++[a],T3),⟨q3,by simp⟩,aWn (o:=o) (o':=o++[a]) (by omega) hx hd.ud q2 ha q4 rfl rfl ⟨rfl,by omega⟩ (aP (by omega)) (by simp) (by simp) rfl rfl rfl⟩)
  (fun acc hI=>aWr (by omega)) (acc:=([],[])) ⟨cD.nil,by simp⟩
 obtain ⟨o,T1⟩:=acc;dsimp only at h1 h2 h3
 rw [List.take_length] at h2
 rw [show aS dl dc=o from h2.symm]
 exact bPo h3
end
end
section
structure bCe (sk:Lqq) (m0 mx:Int) (i:Nat):Prop where
 us:uni 2 sk
 len:sk.length=i
 deck:m0≤mx∧mx≤m0+2*(i:Int)
 mem:∀ x∈sk,skB x=true∧x.getD 0 0≤3*(i:Int)-2
 tim:∀ x∈sk,x.getD 1 0≤16000
 up:sk.Pairwise fun a b=>a.getD 0 0<b.getD 0 0
theorem bCe.snoc{sk:Lqq}{m0 mx:Int}{i:Nat}(h:bCe sk m0 mx i)(hi:i<100){t mx':Int}(ht : -1≤t∧t≤16000)(hm:mx≤mx'∧mx'≤mx+2):bCe (sk++[[3*(i:Int)+1,t]]) m0 mx' (i+1):=by
 obtain ⟨h1,h2,h3,h4,h6,h5⟩:=h;refine ⟨aKb h1 rfl,by simp [h2],by omega,fun x hx => ?_,fun x hx => ?_,?_⟩
 ·rcases gV.1 hx with hx | hx
  ·exact ⟨(h4 x hx).1,by have:=(h4 x hx).2;omega⟩
  ·rw [List.mem_singleton.1 hx]
   exact ⟨aGq.2 ⟨⟨show 1≤3*(i:Int)+1 by omega,show 3*(i:Int)+1≤999 by omega⟩,ht.1,show t≤360000 by omega⟩,show 3*(i:Int)+1≤_ by omega⟩
 ·rcases gV.1 hx with hx | hx
  ·exact h6 x hx
  ·rw [List.mem_singleton.1 hx]
   exact ht.2
 ·rw [List.pairwise_append]
  refine ⟨h5,List.pairwise_singleton _ _,fun x hx y hy => ?_⟩
  rw [List.mem_singleton.1 hy];have:=(h4 x hx).2;show x.getD 0 0<3*(i:Int)+1;omega
theorem bMx{nd:Int}{l:List Int}{r0 m1 t2:Int}(hr:0≤r0∧r0≤30)(hm:0≤m1∧m1≤1000):∃ sk mx tt,bCe sk m1 mx r0.toNat∧aM Tp 1 (sub (cd Tryz.f16) [1,1,0,1,0,0]) (gJ nd l r0 0 0 [] m1 t2) (.exit 0) (gJ nd l r0 r0.toNat sk.length (sk.flatten.map aA) mx tt):=by
 obtain ⟨A,hI,hL⟩:=aM.ex (P:=Tp) (k:=1) (b:=sub (cd Tryz.f16) [1,1,0,1,0,0]) (e := .exit 0) (fun i (A:Lqq × Int × Int)=>gJ nd l r0 i A.1.length (A.1.flatten.map aA) A.2.1 A.2.2) (fun A=>gJ nd l r0 r0.toNat A.1.length (A.1.flatten.map aA) A.2.1 A.2.2)
  (fun i A=>bCe A.1 m1 A.2.1 i) (by simp) r0.toNat
  (fun i A hi hA=>by
   obtain ⟨sk,mx,tt⟩:=A;have hd:=hA.deck;have hl:=hA.len;dsimp only at hd hl
   obtain ⟨r,m,t,e⟩:∃ r m t,bS 20 l mx tt=(r,m,t):=⟨_,_,_,rfl⟩;have b:=gK 20 l mx tt;rw [e] at b
   dsimp only at b
   obtain ⟨c,m',t',e'⟩:∃ r m2 t2,pG 12 l m t=(r,m2,t2):=⟨_,_,_,rfl⟩;have b':=aKa 12 l m t;rw [e'] at b'
   dsimp only at b'
   have hm2:mx≤m'∧m'≤mx+2:=by omega
   have hmx:0≤mx∧mx≤1000000000:=by omega
   have hm3:0≤m∧m≤1000000000:=by omega
   have hsl:sk.length+1≤1000000:=by omega
   cases c with
   | true =>
    refine ⟨(sk++[[3*(i:Int)+1,-1]],m',t'),hA.snoc (by omega) (by omega) hm2,?_⟩
    exact aVb (by omega) (by unfold inR;omega) (by unfold inR;omega) hmx e (by unfold inR;omega) (by unfold inR;omega) hm3 e' rfl ⟨rfl,hsl⟩ (aP (by omega)) rfl (by simp) (by simp)
   | false =>
    refine ⟨(sk++[[3*(i:Int)+1,15000+50*r]],m',t'),hA.snoc (by omega) (by omega) hm2,?_⟩
    exact aVc (by omega) (by unfold inR;omega) (by unfold inR;omega) hmx e (by unfold inR;omega) (by unfold inR;omega) hm3 e' rfl ⟨rfl,hsl⟩ (aP (by omega)) rfl (by simp) (by simp))
  (fun A _=>aVd (by omega)) (acc:=([],m1,t2)) ⟨fun x h=>by simp at h,rfl,⟨uN _,by show m1≤_;omega⟩,fun x h=>by simp at h,fun x h=>by simp at h,.nil⟩
 exact ⟨_,_,_,hI,hL⟩
theorem bMy{l:List Int}{sk:Lqq}{r7 m8 t9:Int}(hr:0≤r7∧r7≤100)(hu:uni 2 sk)(hs:1≤sk.length∧sk.length≤100)(hm:0≤m8∧m8≤1000):∃ dc nu mx tt,aNs sk dc nu mx r7.toNat∧aM Tp 1 (sub (cd Tryz.f16) [1,1,1,1,0,1,0,0]) (dQ l sk r7 0 0 [] 0 m8 t9) (.exit 2) (dQ l sk r7 r7.toNat dc.length (dc.flatten.map aA) nu mx tt):=by
 obtain ⟨A,hI,hL⟩:=aM.ex (P:=Tp) (k:=1) (b:=sub (cd Tryz.f16) [1,1,1,1,0,1,0,0]) (e := .exit 2) (fun j (A:Lqq × Int × Int × Int)=>dQ l sk r7 j A.1.length (A.1.flatten.map aA) A.2.1 A.2.2.1 A.2.2.2) (fun A=>dQ l sk r7 r7.toNat A.1.length (A.1.flatten.map aA) A.2.1 A.2.2.1 A.2.2.2)
  (fun j A=>aNs sk A.1 A.2.1 A.2.2.1 j) (by simp) r7.toNat
  (fun j A hj hA=>by
   obtain ⟨dc',nu',mx',tt',h1,h2⟩:=bGu (l:=l) (tt:=A.2.2.2) hA (r7:=r7) (by omega) hr.2 hu hs
   exact ⟨(dc',nu',mx',tt'),h1,h2⟩)
  (fun A _=>aVi (by omega)) (acc:=([],0,m8,t9)) ⟨fun x h=>by simp at h,rfl,⟨uN _,by show (0:Int)≤_;omega⟩,⟨hm.1,by show m8≤_;omega⟩,fun x h=>by simp at h,.nil⟩
 exact ⟨_,_,_,_,hI,hL⟩
theorem bMz{ns nd:Int}{l:List Int}{nx st:Int}(hns:1≤ns∧ns≤30)(hnd:0≤nd∧nd≤40)(hnx:0≤nx∧nx≤900):∃ sk dc mx tt,bO 30 sk dc∧(sk.length:Int)≤ns∧(dc.length:Int)≤nd∧(0≤mx∧mx≤4000)∧(sk.Pairwise fun a b=>a.getD 0 0<b.getD 0 0)∧(dc.Pairwise fun a b=>a.getD 0 0<b.getD 0 0)∧(∀ x∈dc,x.getD 0 0≤80)∧(∀ x∈sk,x.getD 0 0≤88∧x.getD 1 0≤16000) ∧
  FMM Tp 16 [.ptr 0 0,.p (aA ns),.p (aA nd)] [some (jK l nx st)] (.p (.agg (bP 30 sk dc))) [some (jK l mx tt)]:=by
 obtain ⟨r0,m1,t2,e0⟩:∃ r m t,mT 1 ns l nx st=(r,m,t):=⟨_,_,_,rfl⟩;have b0:=yQ 1 ns l nx st;rw [e0] at b0
 dsimp only at b0
 obtain ⟨sk,mx,tt,hS,hL0⟩:=bMx (nd:=nd) (l:=l) (r0:=r0) (m1:=m1) (t2:=t2) (by omega) (by omega)
 have hsl:=hS.len;have hsd:=hS.deck;obtain ⟨r7,m8,t9,e7⟩:∃ r m t,bS (nd+1) l mx tt=(r,m,t):=⟨_,_,_,rfl⟩;have b7:=gK (nd+1) l mx tt;rw [e7] at b7
 dsimp only at b7
 obtain ⟨dc,nu,mx',tt',hM,hL1⟩:=bMy (l:=l) (sk:=sk) (r7:=r7) (m8:=m8) (t9:=t9) (by omega) hS.us (by omega) (by omega)
 have hml:=hM.len;have hmd:=hM.deck;have hnod:∀ {f:Lqq},(f.Pairwise fun a b=>a.getD 0 0<b.getD 0 0)→(aL f 0).Nodup:=fun {f} h=>by
  unfold aL;rw [List.Nodup,List.pairwise_map];exact h.imp fun h=>by omega
 refine ⟨sk,dc,mx',tt',⟨hS.us,hM.ud,by omega,by omega,by omega,fun x hx=>(hS.mem x hx).1,fun x hx=>(hM.mem x hx).1.1,hnod hS.up,hnod hM.up,fun x hx=>(hM.mem x hx).1.2.1,fun x hx=>(hM.mem x hx).1.2.2⟩,by omega,by omega,by omega,hS.up,hM.up,fun x hx => ?_,fun x hx=>⟨?_,hS.tim x hx⟩,?_⟩
 ·have h1:=(hM.mem x hx).2
  have h2:=hM.num;omega
 ·have:=(hS.mem x hx).2
  omega
 exact bNc (by omega) (by omega) e0 hL0 (by unfold inR;omega) (by omega) e7 hL1
end
end KV
end Go.Proofs
section
namespace Go.Proofs
open Go.RowKit
namespace KV
variable {P:Program} {n:Nat}
def aEw{α:Type}(F:Fence)(n:Nat)(P:Program)(g:Nat)(lb:Array Value)(encs:α→Array Value)(R:α→World→World→Prop)(Kp:World→World→Prop)(S Sp:List α→Prop)(N:Nat)(w:World):Prop :=
 ∀ (l:Nat) (J Jx:List α→World→Prop) (W:World),Below w.heap.size w W→AbidesFrom W.heap.size J→AbidesFrom W.heap.size Jx →
  (∀ pre x W0 W1,J pre W0→W0.grownBy W1 none→R x W0 W1→pre.length<N→YieldAt F (n-1) P l (encs x) W1 fun e W' =>
   (e = .returned (.bool true)∧J (pre++[x]) W'∧Kp W0 W')∨(e = .returned (.bool false)∧Jx (pre++[x]) W')) →
  J [] W →
  CallsIn F n P g (#[.func (.yield l) #[] #[]]++lb) W fun e W'=>(∃ v,e = .returned v)∧((∃ xs,S xs∧J xs W')∨(∃ pre,Sp pre∧Jx pre W'))

def bEt{α:Type}(B:Nat)(Kp:World→World→Prop)(I:List α→World→Prop)(Ix:Code→List α→World→Prop)(xs:List α)(V W:World):Exit→Act→World→Prop
 | .normal,_,W'=>KeepsFrom B W W'∧Kp V W'∧I xs W'
 | .ret,_,W'=>KeepsFrom B W W'∧Ix .ret xs W'
 | .exit id,_,W'=>KeepsFrom B W W'∧Ix (.exit id) xs W'
 | .goto t,_,W'=>KeepsFrom B W W'∧Ix (.goto t) xs W'
 | .panic _,_,_=>False
 | .outgrown,_,_=>False

theorem rT{α:Type}{F:Fence}{g:Operand}{ps:Array Tmp}{assign body:Code}{Q:Exit→Act→World→Prop}{a:Act}{w:World}
  (hro:F.round=none) (h1:1≤n) {gf:Nat} {lb:Array Value} (hg:a.eval g = .func (.func gf) #[] lb) (hFg:F.fn gf) (eg:∀ args w,(callFunc gf args).run P w = .ok (.enter gf args) w)
  {encs:α→Array Value} {R:α→World→World→Prop} {Kp:World→World→Prop} {S Sp:List α→Prop} {N:Nat} {w0:World} (hseq:aEw F (n-1) P gf lb encs R Kp S Sp N w0)
  (hKt:∀ {A B C:World},Kp A B→Kp B C→Kp A C) (hKb:∀ (W:World) (l:Nat) (o o':Obj),w.heap.size≤l→W.heap[l]? = some o→o.isCells=false→o.isWalk=false→Kp W (W.putObj l o')) (hb0:Below w0.heap.size w0 w) (hps:∀ x,(encs x).size=ps.size)
  (I:List α→World→Prop) (Ix:Code→List α→World→Prop) (hI:OwnFrom w.heap.size I) (hIx:∀ c,OwnFrom w.heap.size (Ix c)) (h0:I [] w) (Ax:List α→α→World→Act→World→Prop) (hAx:∀ pre x V a',OwnFrom w.heap.size (fun (_:Unit) W=>Ax pre x V a' W))
  (hassign:∀ (l:Nat) (pre:List α) (x:α) (V W:World) (K:Act→World→Prop),I pre V→V.grownBy W none→R x V W→(∀ a' W',KeepsFrom w.heap.size W W'→Ax pre x V a' W'→K a' W') →
   assign.wpIn (F.inRound l) (n-1-1) P (Exit.then K (fun _ _ _=>False)) { tmps:=(ps.zip (encs x)).foldl (fun t (p,v)=>t.setIfInBounds p v) a.tmps,defers:=[] } W)
  (hbody:∀ (l:Nat) (pre:List α) (x:α) (a':Act) (V W:World),w.heap.size≤l→(∃ r,W.heap[l]? = some (.loop r))→Ax pre x V a' W→pre.length<N→body.wpIn (F.inRound l) (n-1-1) P (bEt w.heap.size Kp I Ix (pre++[x]) V W) a' W)
  (hdone:∀ (D:Nat) (xs:List α) (W:World),w.heap.size≤D→S xs→I xs W→W.heap[D]? = some (.deferred (some []))→Q .normal { a with defers:={ target := .collected D,args := #[] }::a.defers } W)
  (hstop:∀ (D:Nat) (c:Code) (pre:List α) (W:World),w.heap.size≤D→Sp pre→Ix c pre W→W.heap[D]? = some (.deferred (some []))→c.wpIn F n P Q { a with defers:={ target := .collected D,args := #[] }::a.defers } W) :
  (Code.rangeFunc g ps assign body).wpIn F n P Q a w:=by
 refine wpIn_rangeFunc fun fn hfn => ?_
 rw [hro];obtain ⟨rc,hrc⟩:∃ rc:LoopState→Option Code→Loop,rc=fun st pe=>{ state:=st,pending:=pe,fn,tmps:=a.tmps,params:=ps,assign,body,defers:=w.heap.size }:=⟨_,rfl⟩
 obtain ⟨W1,hW1⟩:∃ W1,(w.alloc (.deferred (some []))).alloc (.loop (rc .ready none))=W1:=⟨_,rfl⟩;have hsz:W1.heap.size=w.heap.size+2:=by rw [← hW1];simp
 have hL1:W1.heap[w.heap.size+1]? = some (.loop (rc .ready none)):=by
  have:=World.alloc_heap_new (w.alloc (.deferred (some []))) (.loop (rc .ready none));rw [World.size_alloc] at this
  rw [← hW1];exact this
 have hK1:W1.heap[w.heap.size]? = some (.deferred (some [])):=by
  rw [← hW1];exact (Below.heap_alloc _ _ _ (by simp)).trans (World.alloc_heap_new w _)
 have hI1:I [] W1:=by rw [← hW1];exact hI.alloc _ (hI.alloc _ h0)
 have hb1:Below w0.heap.size w0 W1:=by
  rw [← hW1];exact hb0.trans ((((Below.refl _ w).alloc (dR _) _).alloc (by simp) _).mono hb0.size)
 let Bk (st:LoopState) (pe:Option Code) (W:World):Prop:=W.heap[w.heap.size+1]? = some (.loop (rc st pe))∧W.heap[w.heap.size]? = some (.deferred (some []))
 have bkKeep:∀ {st:LoopState} {pe:Option Code} {A B:World} {row:Option Nat},Bk st pe A→A.grownBy B row→(∀ r,row=some r→∃ o:Obj,A.heap[r]? = some o∧o.isWalk=true)→Bk st pe B:=fun hs hg' hr =>
  ⟨(grownBy_keeps hg' hr hs.1 rfl).trans hs.1,(grownBy_keeps hg' hr hs.2 rfl).trans hs.2⟩
 have walkOwn:∀ {A:World} {row:Option Nat},(∀ r,row=some r→W1.heap.size≤r∧∃ o:Obj,A.heap[r]? = some o∧o.isWalk=true)→∀ r,row=some r→w.heap.size≤r∧∃ o:Obj,A.heap[r]? = some o∧o.isCells=false:=fun hr r e=>by
  obtain ⟨hB,o,ho,hw⟩:=hr r e;exact ⟨by omega,o,ho,Obj.not_cells_of_walk hw⟩
 refine ⟨w.heap.size+1,[{ target := .collected w.heap.size,args := #[] }],W1,{ target := .fn (.func gf) lb,args := #[.func (.yield (w.heap.size+1)) #[] #[]] },W1,gf,
  #[.func (.yield (w.heap.size+1)) #[] #[]]++lb,W1,?_,?_,?_,?_,fun _=>h1,?_⟩
 ·rw [← hW1,hrc];exact run_enterLoop_outer _ _ _ _ _
 ·simp only [resolve,hg]
  simp [go_sem]
 ·intro f' hf';simp [Target.leads] at hf';subst hf';exact hFg
 ·simp [invoke,go_sem,eg]
 ·refine (hseq (w.heap.size+1) (fun pre W=>I pre W∧Bk .ready none W) (fun pre W=>∃ c,Ix c pre W∧Bk .done (some c) W) W1 hb1
   (fun s A B row hs hg' hr=>⟨hI s A B row hs.1 hg' (walkOwn hr),bkKeep hs.2 hg' fun r e=>(hr r e).2⟩)
   (fun s A B row hs hg' hr=>by
    obtain ⟨c,hc,hb⟩:=hs;exact ⟨c,hIx c s A B row hc hg' (walkOwn hr),bkKeep hb hg' fun r e=>(hr r e).2⟩)
   ?_ ⟨hI1,hL1,hK1⟩).mono ?_
  ·-- a round
   rintro pre x V W ⟨hi,hbk⟩ hg' hR hlen;have hbW:=bkKeep hbk hg' (fun r e=>by cases e)
   have hlt:w.heap.size+1<W.heap.size:=(kQ9.1 hbW.1).1;have hy:=run_yield (P:=P) (args:=encs x) hbW.1 (by rw [hrc];exact hps x)
   rw [hrc] at hy
   refine ⟨fn,_,assign,body,hy,roundIn_of_wpIn hfn (hassign _ pre x V W _ hi hg' hR ?_)⟩;clear hy;intro a' Wa hkf hax;have hl:=hkf.same _ _ (by omega) hbW.1 rfl
   have hk:=hkf.same _ _ (dR _) hbW.2 rfl;have hlta:w.heap.size+1<Wa.heap.size:=(kQ9.1 hl).1;refine ⟨_,run_beginRound hl (by rw [hrc]),?_⟩
   have hl2:(Wa.putObj (w.heap.size+1) (.loop { rc .ready none with state := .busy })).heap[w.heap.size+1]? = some (.loop { rc .ready none with state := .busy }):=World.putObj_heap_same hlta
   have hk2:(Wa.putObj (w.heap.size+1) (.loop { rc .ready none with state := .busy })).heap[w.heap.size]? = some (.deferred (some [])):=(World.putObj_heap_other (by omega)).trans hk
   refine wpIn_mono (hbody _ pre x a' V _ (by omega) ⟨_,hl2⟩ ((hAx pre x V a').putObj (s:=()) _ hax (by omega) hl rfl) hlen) ?_
   have fin:∀ (jump:Option Code) (W3:World),KeepsFrom w.heap.size (Wa.putObj (w.heap.size+1) (.loop { rc .ready none with state := .busy })) W3 →
     (Instr.endRound (w.heap.size+1) jump).run P W3 = .ok (.bool jump.isNone) (W3.putObj (w.heap.size+1) (.loop (rc (if jump.isNone then .ready else .done) jump))) ∧
     W3.heap[w.heap.size+1]? = some (.loop { rc .ready none with state := .busy })∧Bk (if jump.isNone then .ready else .done) jump (W3.putObj (w.heap.size+1) (.loop (rc (if jump.isNone then .ready else .done) jump))):=fun jump W3 hk3=>by
    have hl3:=hk3.same _ _ (by omega) hl2 rfl
    have hrun:=run_endRound (P:=P) jump hl3;rw [hrc] at hrun
    refine ⟨by rw [hrc];exact hrun,hl3,?_⟩
    exact ⟨World.putObj_heap_same (kQ9.1 hl3).1,(World.putObj_heap_other (by omega)).trans (hk3.same _ _ (dR _) hk2 rfl)⟩
   rintro e a3 W3 hp;cases e with
   | normal =>
    obtain ⟨hk3,hkp3,hi3⟩:=hp;obtain ⟨hr,hl3,hb4⟩:=fin none W3 hk3;exact ⟨_,_,hr,.inl ⟨rfl,⟨hI.putObj _ hi3 (by omega) hl3 rfl,hb4⟩,hKt hkp3 (hKb _ _ _ _ (by omega) hl3 rfl rfl)⟩⟩
   | ret =>
    obtain ⟨hk3,hi3⟩:=hp;obtain ⟨hr,hl3,hb4⟩:=fin (some .ret) W3 hk3;exact ⟨_,_,hr,.inr ⟨rfl,.ret,(hIx _).putObj _ hi3 (by omega) hl3 rfl,hb4⟩⟩
   | exit id =>
    obtain ⟨hk3,hi3⟩:=hp;obtain ⟨hr,hl3,hb4⟩:=fin (some (.exit id)) W3 hk3;exact ⟨_,_,hr,.inr ⟨rfl,.exit id,(hIx _).putObj _ hi3 (by omega) hl3 rfl,hb4⟩⟩
   | goto t =>
    obtain ⟨hk3,hi3⟩:=hp;obtain ⟨hr,hl3,hb4⟩:=fin (some (.goto t)) W3 hk3;exact ⟨_,_,hr,.inr ⟨rfl,.goto t,(hIx _).putObj _ hi3 (by omega) hl3 rfl,hb4⟩⟩
   | panic ch=>exact hp.elim
   | outgrown=>exact hp.elim
  ·-- behind the iterator
   rintro e W2 ⟨⟨v,rfl⟩,(⟨xs,hS,hi,hb⟩ | ⟨pre,hSp,c,hi,hb⟩)⟩
   ·have:=run_endLoop (P:=P) hb.1 (by rw [hrc];simp)
    rw [hrc] at this
    exact ⟨none,_,this,hdone _ xs _ (dR _) hS (hI.putObj _ hi (by omega) hb.1 rfl) ((World.putObj_heap_other (by omega)).trans hb.2)⟩
   ·have:=run_endLoop (P:=P) hb.1 (by rw [hrc];simp)
    rw [hrc] at this
    exact ⟨some c,_,this,hstop _ c pre _ (dR _) hSp ((hIx c).putObj _ hi (by omega) hb.1 rfl) ((World.putObj_heap_other (by omega)).trans hb.2)⟩
end KV
end Go.Proofs
end
section
namespace Go.Proofs
open Go.RowKit
namespace KV
variable {P:Program} {C C0:Cx} {M M0:Mem} {w w0:World}
abbrev lE(l:List Int):AO := .row 3 l.length (l.map aA)
def bEq(P:Program)(x:List Int × Value)(W0 W1:World):Prop:=x.1.length≤1000∧∃ C1:Cx,aR P C1 [some (lE x.1)] W1∧Rep C1 [some (lE x.1)] W1 (.own 0) x.2∧∀ b,C1.ι 0=some b→W0.heap.size≤b

theorem nU{W0 W1:World}(hg:W0.grownBy W1 none)(b:Nat)(hb:b<W0.heap.size):W1.heap[b]? = W0.heap[b]? := hg.block b hb (fun e=>by cases e)
theorem bEr{M':Mem}{W0 W1:World}{x:List Int × Value}(hM:aR P C M' W0)(hg:W0.grownBy W1 none)(hR:bEq P x W0 W1) :
  ∃ C2,aR P C2 (M'++[some (lE x.1)]) W1∧Fr C M' W0 C2 (M'++[some (lE x.1)]) W1∧Rep C2 (M'++[some (lE x.1)]) W1 (.own M'.length) x.2:=by
 obtain ⟨_,C1,h1,h2,h3⟩:=hR
 let C2:Cx:={ ι:=fun i=>if i=M'.length then C1.ι 0 else C.ι i,κ:=fun i=>if i=M'.length then C1.κ 0 else C.κ i,F:=C.F }
 have old:∀ (i:Nat) (o:AO),M'[i]? = some (some o)→i<M'.length∧(M'++[some (lE x.1)])[i]? = some (some o)∧C2.ι i=C.ι i∧C2.κ i=C.κ i:=fun i o h=>by
  have hl:=(kQ2.1 h).1;refine ⟨hl,by rw [aAr hl];exact h,if_neg (by omega),if_neg (by omega)⟩
 have cls:∀ (i:Nat) (o:AO),(M'++[some (lE x.1)])[i]? = some (some o)→M'[i]? = some (some o)∨(i=M'.length∧o=lE x.1):=fun i o h=>by
  rcases Nat.lt_or_ge i M'.length with hl | hl
  ·rw [aAr hl] at h;exact .inl h
  ·rw [aAq hl] at h
   cases hd:i-M'.length with
   | zero =>
    rw [hd] at h
    simp at h
    exact .inr ⟨by omega,h.symm⟩
   | succ j=>rw [hd] at h;simp at h
 have new:C2.ι M'.length=C1.ι 0∧C2.κ M'.length=C1.κ 0:=⟨if_pos rfl,if_pos rfl⟩;have f:Fr C M' W0 C2 (M'++[some (lE x.1)]) W1:=by
  refine ⟨hg.os,hg.tape,hg.output,hg.size,fun b hb _=>nU hg b hb,fun i o h => ?_,fun i o h ty n cs hm => ?_,fun i o h o' h' hl => ?_,fun i o b h hl hb => ?_,fun b h=>h,fun b h => .inl h⟩
  ·obtain ⟨_,q1,q2,q3⟩:=old i o h
   exact ⟨⟨o,q1⟩,q2,q3⟩
  ·rw [(old i o h).2.1] at hm;cases hm;exact ⟨cs,h⟩
  ·rw [(old i o h).2.1] at h';cases h';exact hl
  ·rcases cls i o h with q | ⟨rfl,rfl⟩
   ·rw [(old i o q).2.2.1] at hb;exact .inr ⟨i,o,q,hl,hb⟩
   ·rw [new.1] at hb;exact .inl (h3 b hb)
 have hL:=hM.le f;have hr0:=h1.row 0 3 x.1.length (x.1.map aA) rfl;refine ⟨C2,⟨fun i ty n cs hm => ?_,fun i ty cs hm => ?_,fun i es cl hm => ?_,fun i i' o1 o2 b q1 l1 q2 l2 e1 e2 => ?_,fun i o b hm hl hb => ?_,fun b hb=>kQ8 (hM.Fs b hb) hg.size,fun i o b hm hl hb => ?_⟩,f,?_⟩
 ·rcases cls i _ hm with q | ⟨rfl,q⟩
  ·obtain ⟨hlt,_,q2,q3⟩:=old i _ q
   rw [q2,q3]
   rcases hM.row _ _ _ _ q with h4 | ⟨b,arr,inf,p0,p1,p2,p3,p4,p5,p6,p7,p8⟩
   ·exact .inl h4
   ·exact .inr ⟨b,arr,inf,p0,by rw [nU hg b (hM.lt i _ b q rfl p0)];exact p1,p2,p3,p4,p5,p6,fun j hj=>(p7 j hj).mono hL.F hL.fz,p8⟩
  ·cases q
   rw [new.1,new.2]
   rcases hr0 with h4 | ⟨b,arr,inf,p0,p1,p2,p3,p4,p5,p6,p7,p8⟩
   ·exact .inl h4
   ·refine .inr ⟨b,arr,inf,p0,p1,p2,p3,p4,p5,p6,fun j hj => ?_,p8⟩
    have:=p7 j hj;revert this;rw [lP];generalize arr.getD j undef=u;intro h;cases h;exact .v _
 ·rcases cls i _ hm with q | ⟨rfl,q⟩
  ·obtain ⟨b,arr,p0,p1,p2,p3,p4⟩:=hM.box _ _ _ q
   exact ⟨b,arr,by rw [(old i _ q).2.2.1];exact p0,by rw [nU hg b (hM.lt i _ b q rfl p0)];exact p1,p2,fun j hj=>(p3 j hj).mono hL,p4⟩
  ·cases q
 ·rcases cls i _ hm with q | ⟨rfl,q⟩
  ·obtain ⟨b,arr,p0,p1,p2,p3⟩:=hM.mp _ _ _ q
   refine ⟨b,arr,by rw [(old i _ q).2.2.1];exact p0,by rw [nU hg b (hM.lt i _ b q rfl p0)];exact p1,p2,fun j hj => ?_⟩
   obtain ⟨en,r1,r2,r3,r4⟩:=p3 j hj;exact ⟨en,r1,r2,r3,r4.mono hL.F hL.fz⟩
  ·cases q
 ·rcases cls i _ q1 with c1 | ⟨rfl,rfl⟩ <;> rcases cls i' _ q2 with c2 | ⟨rfl,rfl⟩
  ·rw [(old i _ c1).2.2.1] at e1
   rw [(old i' _ c2).2.2.1] at e2
   exact hM.inj _ _ _ _ _ c1 l1 c2 l2 e1 e2
  ·rw [(old i _ c1).2.2.1] at e1
   rw [new.1] at e2
   have:=hM.lt _ _ _ c1 l1 e1;have:=h3 b e2;omega
  ·rw [new.1] at e1
   rw [(old i' _ c2).2.2.1] at e2
   have:=hM.lt _ _ _ c2 l2 e2;have:=h3 b e1;omega
  ·rfl
 ·rcases cls i _ hm with c1 | ⟨rfl,rfl⟩
  ·rw [(old i _ c1).2.2.1] at hb
   exact hM.nF _ _ _ c1 hl hb
  ·rw [new.1] at hb
   intro hF;have:=hM.Fs b hF;have:=h3 b hb;omega
 ·rcases cls i _ hm with c1 | ⟨rfl,rfl⟩
  ·rw [(old i _ c1).2.2.1] at hb
   exact kQ8 (hM.lt _ _ _ c1 hl hb) hg.size
  ·rw [new.1] at hb
   exact h1.lt 0 _ b rfl rfl hb
 ·cases h2 with
  | own _ _ q0 qa q =>
   refine .own _ _ q0 ⟨lE x.1,by rw [aAq (dR _),aUs];rfl⟩ fun ty n cs hm => ?_
   rw [aAq (dR _),aUs] at hm
   rw [new.1,new.2];exact q ty n cs hm

theorem oY:∀ {m m':Mem},nmM m=true→nmM m'=true→nmM (m++m')=true
 | [],_,_,h=>h
 | none::r,m',h,h'=>by
  have:nmM (r++m')=true:=oY (m:=r) h h';exact this
 | some x::r,m',h,h'=>by
  cases x with
  | row ty n cs =>
   simp only [nmM,kQ7] at h
   show (jM cs && nmM (r++m'))=true;rw [h.1,oY h.2 h'];rfl
  | box ty l =>
   simp only [nmM,kQ7] at h
   show (nmL l && nmM (r++m'))=true;rw [h.1,oY h.2 h'];rfl
  | mp=>exact oY (m:=r) h h'
  | pk=>exact oY (m:=r) h h'
  | dead=>exact oY (m:=r) h h'
theorem kI:∀ {m m':Mem},fN m=true→fN m'=true→fN (m++m')=true
 | [],_,_,h=>h
 | none::r,m',h,h'=>kI (m:=r) h h'
 | some x::r,m',h,h'=>by
  cases x with
  | mp=>simp [fN] at h
  | pk=>simp [fN] at h
  | row=>exact kI (m:=r) h h'
  | box=>exact kI (m:=r) h h'
  | dead=>exact kI (m:=r) h h'

theorem bEs{M':Mem}{W W':World}{C1:Cx}{row:Option Nat}(hn:xR M')(hq:nmM M'=true)(hF:∀ b,C.F b→b<w.heap.size)(h1:aR P C1 M' W)(h2:Fr C M w C1 M' W)(hg:W.grownBy W' row)
  (hr:∀ r,row=some r→w.heap.size≤r∧∃ o:Obj,W.heap[r]? = some o∧o.isCells=false):∃ C',C'.ι=C1.ι∧C'.κ=C1.κ∧aR P C' M' W'∧Fr C M w C' M' W':=by
 let C':Cx:=⟨C1.ι,C1.κ,fun b=>C1.F b∧(b<w.heap.size∨kW W b),[]⟩
 have hM:aR P C' M' W:=by
  refine ⟨fun i ty n cs hm => ?_,fun i ty cs hm => ?_,fun i es cl hm=>absurd hm (hn.1 _ _ _),h1.inj,fun i o b ho hl hb hf=>h1.nF i o b ho hl hb hf.1,fun b hb=>h1.Fs b hb.1,h1.lt⟩
  ·rcases h1.row _ _ _ _ hm with h4 | ⟨b,arr,inf,q0,q1,q2,q3,q4,q5,q6,q7,q8⟩
   ·exact .inl h4
   ·exact .inr ⟨b,arr,inf,q0,q1,q2,q3,q4,q5,q6,fun j hj=>(q7 j hj).shrink (fun b hb hs=>⟨hb,.inr hs⟩) (oT ((aBf hq).1 _ _ _ _ hm) j hj),q8⟩
  ·obtain ⟨b,arr,q0,q1,q2,q3,q4⟩:=h1.box _ _ _ hm
   exact ⟨b,arr,q0,q1,q2,fun j hj=>(q3 j hj).shrink (fun b hb hs=>⟨hb,.inr hs⟩) (sY ((aBf hq).2 _ _ _ hm) j hj),q4⟩
 have f:Fr C M w C' M' W:=⟨h2.os,h2.tape,h2.out,h2.size,h2.keep,h2.ids,h2.row,h2.liv,h2.new,fun b hb=>⟨h2.F1 b hb,.inl (hF b hb)⟩,fun b hb=>h2.F2 b hb.1⟩
 have hS:∀ b,C'.F b→b<w.heap.size∨kW W b:=fun b hb=>hb.2
 have hsame:∀ b,b<W.heap.size→(b<w.heap.size∨kW W b)→W'.heap[b]? = W.heap[b]? := fun b hb hd=>hg.block b hb (fun e=>by
  obtain ⟨q1,o,q2,q3⟩:=hr b e.symm
  rcases hd with hd | hd
  ·omega
  ·exact iX q2 q3 hd)
 have hFz:∀ b,C'.F b→W'.heap[b]? = W.heap[b]? := fun b hb=>hsame b (hM.Fs b hb) (hS b hb)
 have hL:Le C' C' M' M' W W':=⟨fun _ o h=>⟨o,h⟩,fun _ _ _ _ _ cs h=>⟨cs,h⟩,fun _ o h o' h' hl=>by rw [h] at h';cases h';exact ⟨hl,rfl,rfl⟩,fun _ h=>h,hFz⟩
 refine ⟨C',rfl,rfl,⟨fun i ty n cs hm => ?_,fun i ty cs hm => ?_,fun i es cl hm=>absurd hm (hn.1 _ _ _),hM.inj,hM.nF,fun b hb=>kQ8 (hM.Fs b hb) hg.size,fun i o b ho hl hb=>kQ8 (hM.lt i o b ho hl hb) hg.size⟩,
  ⟨hg.os.trans f.os,hg.tape.trans f.tape,hg.output.trans f.out,gI f.size hg.size,fun b hb hno=>(hsame b (kQ8 hb f.size) (.inl hb)).trans (f.keep b hb hno),f.ids,f.row,f.liv,f.new,f.F1,f.F2⟩⟩
 ·rcases hM.row _ _ _ _ hm with h4 | ⟨b,arr,inf,q0,q1,q2,q3,q4,q5,q6,q7,q8⟩
  ·exact .inl h4
  ·exact .inr ⟨b,arr,inf,q0,(hsame b (kQ9.1 q1).1 (.inr (eX q1))).trans q1,q2,q3,q4,q5,q6,fun j hj=>(q7 j hj).mono hL.F hL.fz,q8⟩
 ·obtain ⟨b,arr,q0,q1,q2,q3,q4⟩:=hM.box _ _ _ hm
  exact ⟨b,arr,q0,(hsame b (kQ9.1 q1).1 (.inr (eX q1))).trans q1,q2,fun j hj=>(q3 j hj).mono hL,q4⟩
theorem aPt{C1 C':Cx}{M':Mem}{W W':World}{i:Nat}{u:Value}(h:Rep C1 M' W (.own i) u)(e1:C'.ι=C1.ι)(e2:C'.κ=C1.κ):Rep C' M' W' (.own i) u:=by
 cases h with
 | own _ _ q0 qa q=>exact .own _ _ q0 qa fun ty n cs hm=>by rw [e1,e2];exact q ty n cs hm

def bLz(P:Program)(g:AV)(gf N:Nat)(xs:Lqq):Prop:=∀ (C:Cx) (M:Mem) (w:World) (u:Value),Rep C M w g u→(∀ b,C.F b→b<w.heap.size) →
 ∃ lb,u = .func (.func gf) #[] lb∧aEw Fence.wide 2 P gf lb (fun x:List Int × Value => #[x.2]) (bEq P) (KpG C.F) (fun ys=>ys.map (·.1)=xs) (fun ys=>ys.map (·.1) <+: xs) N w

def rfO(st:St)(p1 d:Nat)(l:List Int):St:=⟨put (put st.t (some p1) (.own st.m.length)) (some d) (.own st.m.length),st.m++[some (lE l)]⟩

section
variable {k kb gi gf p1 d id ty:Nat} {pos:String} {body:Code} {g:AV} {N:Nat} {xs:Lqq}
theorem aEv(st0:St)(S:Lqq→St)(E ER:Lqq→List Int→St)(T:List AV)(MR:Mem)(p:Lqq→List Int→Bool){cc:Code}(hcc:cc = .rangeFunc (.tmp gi) #[p1] (.region id #[{ dst:=some d,op := .assign (.tmp p1),type:=ty,pos:=pos,after := #[],guard:=none }] false) body)
  (hT0:st0.t=T) (hT:∀ pre,(S pre).t=T) (hg:T[gi]? = some g) (hit:bLz P g gf N xs) (eg:∀ args w,(callFunc gf args).run P w = .ok (.enter gf args) w)
  (hmp:∀ pre,fN (S pre).m=true) (hq:∀ pre,nmM (S pre).m=true) (hmE:∀ pre l,fN (E pre l).m=true) (hmER:∀ pre l,fN (ER pre l).m=true) (hmR:fN MR=true) (hqR:nmM MR=true) (hlen:∀ pre,(S pre).m.length<kb) (hnrf:nrf body=true)
  (hp:∀ (x:AV),(put T (some p1) x)[p1]? = some x) {kk:Nat} {g0 g1 gR:Gh} (hkk:st0.m.length≤kk) (h0m:fN st0.m=true) (hg0:gh kk g0 st0=some (S [])) (hgh:∀ pre l,gh kk g1 (E pre l)=some ⟨(E pre l).t,(S (pre++[l])).m⟩) (hgR:∀ pre l,p pre l=true→gh kk gR (ER pre l)=some ⟨(ER pre l).t,MR⟩)
  (hbody:∀ pre l,pre.length<N→l.length≤1000→(p pre l=false→aC P kb body (rfO (S pre) p1 d l) .normal (E pre l))∧(p pre l=true→aC P kb body (rfO (S pre) p1 d l) .ret (ER pre l))) :
  ((∀ pre l,pre++[l] <+: xs→p pre l=false)→aC P k cc st0 .normal (S xs)) ∧
  ((∃ pre l,pre++[l] <+: xs∧p pre l=true)→aC P k cc st0 .ret ⟨T,MR⟩):=by
 have hmp':∀ pre,xR (S pre).m:=fun pre=>dZ (hmp pre)
 have hmR':xR MR:=dZ hmR;have main:∀ (Qf:Ex→St→Prop),((∀ pre l,pre++[l] <+: xs→p pre l=false)→Qf .normal (S xs))→((∃ pre l,pre++[l] <+: xs∧p pre l=true)→Qf .ret ⟨T,MR⟩) →
   ∀ (C0:Cx) (M0:Mem) (w0:World) (a:Act) (w:World),M0.length≤k→Sim P C0 M0 w0 st0 a w→∀ (ro:Option Nat),kQ ro cc→∀ (n:Nat),cc.wpIn (Fen ro) n P (fun e' a' w'=>∃ e st',Qf e st'∧e'=e.toExit∧Sim P C0 M0 w0 st' a' w') a w:=by
  intro Qf hQ1 hQ2 C0 M0 w0 a w hk hs ro hro n;subst hcc;have hro':ro=none:=hro.resolve_right (by simp [nrf])
  subst hro';refine aBg (n:=3) ?_;obtain ⟨C,hSl,hM,hF,hD⟩:=hs;have hini:aVz P C st0.m w (S []).m w:=by
   obtain ⟨C1,_,h1,h2,_⟩:=eK hkk hg0 (show Sim P (C.with []) st0.m w st0 { a with defers:=[] } w from ⟨C,hSl,hM,(Fr.refl _ _ _).based [],.nil rfl (dZ h0m).2⟩)
   exact ⟨C1,h1,h2.unbased⟩
  rw [hT0] at hSl
  obtain ⟨lb,hu,hseq⟩:=hit C st0.m w _ (hSl.at hg) hM.Fs
  have actOf:∀ x:List Int × Value,Act:=fun x=>({ tmps:=a.tmps.setIfInBounds p1 x.2,defers:=[] }:Act).put (some d) (({ tmps:=a.tmps.setIfInBounds p1 x.2,defers:=[] }:Act).eval (.tmp p1))
  refine rT (F:=Fen none) (n:=3) rfl (by omega) (gf:=gf) (lb:=lb) hu trivial eg hseq (fun h k=>h.trans k)
   (fun W l o o' hl h1 h2 h3=>⟨by simp,fun b hb=>(grownBy_putObj' W l o').block b (kQ8 (hM.Fs b hb) (gI hl (Nat.le_of_lt (kQ9.1 h1).1))) (fun e=>by cases e;have:=hM.Fs _ hb;omega)⟩)
   (Below.refl _ _) (fun _=>rfl)
   (fun pre W=>aVz P C st0.m w (S (pre.map (·.1))).m W∧∀ q l,q++[l] <+: pre.map (·.1)→p q l=false)
   (fun c pre W=>c = .ret∧aVz P C st0.m w MR W∧∃ q l,q++[l]=pre.map (·.1)∧p q l=true)
   (fun pre X Y row hs hg hr=>⟨hs.1.own (hmp' _) (hq _) hM.Fs hg hr,hs.2⟩) (fun c pre X Y row hs hg hr=>⟨hs.1,hs.2.1.own hmR' hqR hM.Fs hg hr,hs.2.2⟩)
   ⟨hini,fun q l h=>by simp at h⟩
   (fun pre x V a' W=>a'=({ tmps:=a.tmps.setIfInBounds p1 x.2,defers:=[] }:Act).put (some d) (({ tmps:=a.tmps.setIfInBounds p1 x.2,defers:=[] }:Act).eval (.tmp p1)) ∧
    (∃ C2,aR P C2 ((S (pre.map (·.1))).m++[some (lE x.1)]) W∧Fr C st0.m w C2 ((S (pre.map (·.1))).m++[some (lE x.1)]) W∧Rep C2 ((S (pre.map (·.1))).m++[some (lE x.1)]) W (.own (S (pre.map (·.1))).m.length) x.2) ∧
    KpG C.F V W∧x.1.length≤1000∧∀ q l,q++[l] <+: pre.map (·.1)→p q l=false)
   (fun pre x V a' s X Y row hs hg hr=>by
    obtain ⟨e1,⟨C2,q1,q2,q3⟩,e3,e4,e5⟩:=hs;have hnr:nmM [some (lE x.1)]=true:=by
     show (jM (x.1.map aA) && nmM [])=true;rw [aBe aA (fun _=>rfl)];rfl
    obtain ⟨C',i1,i2,i3,i4⟩:=bEs (dZ (kI (hmp _) (by rfl))) (oY (hq _) hnr) hM.Fs q1 q2 hg hr
    refine ⟨e1,⟨C',i3,i4,aPt q3 i1 i2⟩,⟨gI e3.size hg.size,fun b hb => ?_⟩,e4,e5⟩
    refine (hg.block b (kQ8 (hM.Fs b hb) q2.size) (fun e => ?_)).trans (e3.same b hb)
    have:=(hr b e.symm).1;have:=hM.Fs b hb;omega)
   ?assign ?body ?done ?stop
  case assign =>
   intro l pre x V W K hI hg' hR hK;obtain ⟨⟨C',hM',hF'⟩,hpre⟩:=hI;obtain ⟨C2,j1,j2,j3⟩:=bEr hM' hg' hR;have hz:(#[p1].zip #[x.2]).foldl (fun t (y:Nat × Value)=>t.setIfInBounds y.1 y.2) a.tmps=a.tmps.setIfInBounds p1 x.2:=by simp
   rw [hz];refine wpIn_region_lit (wpListIn_plain rfl fun K' hK' => ?_)
   unfold Oper.wpIn;refine ⟨fun f _=>trivial,?_⟩
   rw [Oper.semAt_plain _ _ _ (by intro c hc';cases hc')]
   simp only [execOp,Sem.run_pure];exact hK' _ _ (wpListIn_nil (hK _ _ (KeepsFrom.refl _ _) ⟨rfl,⟨C2,j1,hF'.trans j2,j3⟩,⟨hg'.size,fun b hb=>nU hg' b (kQ8 (hM.Fs b hb) hF'.size)⟩,hR.1,hpre⟩))
  case body =>
   rintro l pre x a' V W hl _ ⟨rfl,⟨C2,hM2,hF2,hr2⟩,hK2,hxl,hpre⟩ hlt;have hpl:(pre.map (·.1)).length<N:=by simpa using hlt
   have hSW:eE C2 ((S (pre.map (·.1))).m++[some (lE x.1)]) W T a.tmps:=hSl.le (hM.le hF2)
   have s1:eE C2 ((S (pre.map (·.1))).m++[some (lE x.1)]) W (put T (some p1) (.own (S (pre.map (·.1))).m.length)) (({ tmps:=a.tmps,defers:=[] }:Act).put (some p1) x.2).tmps :=
    eE.put (a:={ tmps:=a.tmps,defers:=[] }) hSW hr2
   have s2:eE C2 ((S (pre.map (·.1))).m++[some (lE x.1)]) W (put (put T (some p1) (.own (S (pre.map (·.1))).m.length)) (some d) (.own (S (pre.map (·.1))).m.length)) (({ tmps:=a.tmps.setIfInBounds p1 x.2,defers:=[] }:Act).put (some d) (({ tmps:=a.tmps.setIfInBounds p1 x.2,defers:=[] }:Act).eval (.tmp p1))).tmps :=
    eE.put s1 (s1.at (hp _))
   have hnr:fN ((S (pre.map (·.1))).m++[some (lE x.1)])=true:=kI (hmp _) (by rfl)
   have hsim:Sim P (C2.with []) ((S (pre.map (·.1))).m++[some (lE x.1)]) W (rfO (S (pre.map (·.1))) p1 d x.1) (({ tmps:=a.tmps.setIfInBounds p1 x.2,defers:=[] }:Act).put (some d) (({ tmps:=a.tmps.setIfInBounds p1 x.2,defers:=[] }:Act).eval (.tmp p1))) W:=by
    refine ⟨C2,?_,hM2,(Fr.refl _ _ _).based [],.nil rfl (dZ hnr).2⟩;unfold rfO;rw [hT];exact s2
   have hkl:((S (pre.map (·.1))).m++[some (lE x.1)]).length≤kb:=by
    rw [lO];exact hlen _
   have keepO:∀ {M2:Mem} {W2:World} {C3:Cx},Fr C2 ((S (pre.map (·.1))).m++[some (lE x.1)]) W C3 M2 W2→KeepsFrom w.heap.size W W2∧KpG C.F V W2:=fun f3 =>
    ⟨⟨f3.size,fun b o _ hb ho=>(f3.keep b (kQ9.1 hb).1 (aGs hM2 (dZ hnr) hb ho)).trans hb⟩,
     hK2.trans ⟨f3.size,fun b hb=>f3.keep b (kQ8 (hM.Fs b hb) hF2.size) (fun id o ho hl he=>hM2.nF id o b ho hl he (hF2.F1 b hb))⟩⟩
   have hmapp:(pre++[x]).map (·.1)=pre.map (·.1)++[x.1]:=by simp
   cases hpx:p (pre.map (·.1)) x.1 with
   | false =>
    refine wpIn_mono ((hbody _ x.1 hpl hxl).1 hpx (C2.with []) _ W _ W hkl hsim (some l) (.inr hnrf) 1) ?_
    rintro e a2 W2 ⟨rfl,C3,hS3,hM3,hF3,_⟩;have hF3:=hF3.unbased;obtain ⟨k1,k2⟩:=keepO hF3;have hsim3:Sim P (C.with []) st0.m w (E (pre.map (·.1)) x.1) { a2 with defers:=[] } W2 :=
     ⟨C3,hS3,hM3,(hF2.trans hF3).based [],.nil rfl (dZ (hmE _ _)).2⟩
    obtain ⟨C4,_,hM4,hF4,_⟩:=eK hkk (hgh _ _) hsim3;refine ⟨k1,k2,⟨C4,?_,?_⟩,fun q l h => ?_⟩
    ·rw [hmapp];exact hM4
    ·rw [hmapp];exact hF4.unbased
    ·rw [hmapp] at h
     rcases List.prefix_concat_iff.1 h with h | h
     ·obtain ⟨e1,e2⟩:=List.append_inj' h rfl
      cases e2;rw [e1];exact hpx
     ·exact hpre q l h
   | true =>
    have hc:=(hbody _ x.1 hpl hxl).2 hpx;refine wpIn_mono (hc (C2.with []) _ W _ W hkl hsim (some l) (.inr hnrf) 1) ?_
    rintro e a2 W2 ⟨rfl,C3,hS3,hM3,hF3,_⟩;have hF3:=hF3.unbased;obtain ⟨k1,k2⟩:=keepO hF3;have hsim3:Sim P (C.with []) st0.m w (ER (pre.map (·.1)) x.1) { a2 with defers:=[] } W2 :=
     ⟨C3,hS3,hM3,(hF2.trans hF3).based [],.nil rfl (dZ (hmER _ _)).2⟩
    obtain ⟨C4,_,hM4,hF4,_⟩:=eK hkk (hgR _ _ hpx) hsim3;exact ⟨k1,rfl,⟨C4,hM4,hF4.unbased⟩,_,_,hmapp.symm,hpx⟩
  case done =>
   intro D ys W hD' hSx hI hDm;obtain ⟨⟨C1,h1,h2⟩,hpre⟩:=hI;rw [hSx] at h1 h2 hpre
   refine ⟨.normal,S xs,hQ1 hpre,rfl,?_⟩;have hnm:xR (S xs).m:=hmp' xs;obtain ⟨C',hM',f,hSo⟩:=sZ hnm (hq xs) hM.Fs h1 h2;refine ⟨C',by rw [hT];exact hSl.le (hM.le f),hM',hF.trans f,?_⟩
   obtain ⟨⟨l,e1,e2,e3⟩,hR⟩:=hD.fr hM (fun i to ti sz L h=>by have:=hnm.2 _ _ h;cases this) f
   obtain ⟨⟨l',e1',_,e3'⟩,_⟩:=hD;have hll:l=l':=by
    have:=e1.symm.trans e1';exact (List.map_inj_right (fun x y h=>by simpa [mark] using h)).1 this
   refine ⟨⟨D::l,by rw [e1];rfl,List.nodup_cons.2 ⟨fun hin => ?_,e2⟩,fun D' hD2 => ?_⟩,hR⟩
   ·rw [hll] at hin
    have:=(kQ9.1 (e3' D hin).1).1;omega
   ·rcases fB.1 hD2 with rfl | hin
    ·refine ⟨hDm,gI hF.size hD',fun hf => ?_⟩
     rcases hSo _ hf with h | h
     ·omega
     ·exact iX hDm rfl h
    ·exact e3 D' hin
  case stop =>
   rintro D c pre W hD' hSp ⟨rfl,⟨C1,h1,h2⟩,q,l0,hql,hpq⟩ hDm;refine wpIn_ret ?_;refine ⟨.ret,⟨T,MR⟩,hQ2 ⟨q,l0,by rw [hql];exact hSp,hpq⟩,rfl,?_⟩
   obtain ⟨C',hM',f,hSo⟩:=sZ hmR' hqR hM.Fs h1 h2;refine ⟨C',hSl.le (hM.le f),hM',hF.trans f,?_⟩;obtain ⟨⟨l,e1,e2,e3⟩,hR⟩:=hD.fr hM (fun i to ti sz L h=>by have:=hmR'.2 _ _ h;cases this) f
   obtain ⟨⟨l',e1',_,e3'⟩,_⟩:=hD;have hll:l=l':=by
    have:=e1.symm.trans e1';exact (List.map_inj_right (fun x y h=>by simpa [mark] using h)).1 this
   refine ⟨⟨D::l,by rw [e1];rfl,List.nodup_cons.2 ⟨fun hin => ?_,e2⟩,fun D' hD2 => ?_⟩,hR⟩
   ·rw [hll] at hin
    have:=(kQ9.1 (e3' D hin).1).1;omega
   ·rcases fB.1 hD2 with rfl | hin
    ·refine ⟨hDm,gI hF.size hD',fun hf => ?_⟩
     rcases hSo _ hf with h | h
     ·omega
     ·exact iX hDm rfl h
    ·exact e3 D' hin
 refine ⟨fun hall => ?_,fun hex => ?_⟩
 ·intro C0 M0 w0 a w hk hs ro hro n
  refine wpIn_mono (main (fun e st'=>e = .normal∧st'=S xs) (fun _=>⟨rfl,rfl⟩) (fun ⟨q,l,h1,h2⟩=>by rw [hall q l h1] at h2;cases h2) C0 M0 w0 a w hk hs ro hro n) ?_
  rintro e' a' w' ⟨e,st',⟨rfl,rfl⟩,h1,h2⟩;exact ⟨h1,h2⟩
 ·intro C0 M0 w0 a w hk hs ro hro n
  refine wpIn_mono (main (fun e st'=>e = .ret∧st'=⟨T,MR⟩) (fun hall=>by obtain ⟨q,l,h1,h2⟩:=hex;rw [hall q l h1] at h2;cases h2) (fun _=>⟨rfl,rfl⟩) C0 M0 w0 a w hk hs ro hro n) ?_
  rintro e' a' w' ⟨e,st',⟨rfl,rfl⟩,h1,h2⟩;exact ⟨h1,h2⟩
end
end KV
end Go.Proofs
end
section
namespace Go.Proofs
open Go.RowKit
namespace KV
variable {P:Program} {T:TT} {E:Env} {C C0:Cx} {M M0:Mem} {w w0:World}
def bUm(P:Program)(ops:Array Oper)(o:Oper)(st st':St):Prop:=∀ (C0:Cx) (M0:Mem) (w0:World) (a:Act) (w:World),Sim P C0 M0 w0 st a w→∀ (ro:Option Nat) (n:Nat) (K:Act→World→Prop) (Q:Exit→Act→World→Prop),
 (∀ a' w',(∃ v,a'=a.put o.dst v)→Sim P C0 M0 w0 st' a' w'→K a' w')→if Region.wanted o (yielded ops a.tmps) then o.wpIn (Fen ro) n P a w K Q else (∀ f,o.about P w a.eval=some f→(Fen ro).fn f)∧K (a.put o.dst undef) w
theorem aZl(hT:∀ t i,T t=some i→cI P t=some i)(hE:kV P E){ops:List Oper}{o:Oper}{id:Nat}{st st':St}{s s':AS}(h:nW P T E ops o id st s=some (st',s'))(g:bA s'):bUm P ops.toArray o st st':=by
 intro C0 M0 w0 a w hsim ro n K Q hK;obtain ⟨C,hS,hM,hF,hD⟩:=hsim;unfold nW at h
 obtain ⟨go,s1,h1,k1⟩:=aD h;cases go with
 | true =>
  obtain ⟨vs,s2,h2,k2⟩:=aD k1;obtain ⟨e2,rfl⟩:=aG h2;obtain ⟨⟨x,L⟩,s3,h3,k3⟩:=aD k2;obtain ⟨rfl,rfl⟩:=aJ k3;have gd:=nV.good h3 g;rw [mE hS h1 gd,if_pos rfl];refine ⟨fun f _=>trivial,?_⟩
  rw [Oper.semAt_eq _ _ _ (xG h3)]
  rcases rF h3 with ⟨q,_,_,h4⟩ | ⟨h4,hno⟩
  ·obtain ⟨_,hup⟩:=xH hT hE hS hM hF hD (pY hS _ _ e2) h4 g
   revert hup;generalize (execOp a.eval o).run P w=r;intro hup;cases r with
   | halt x w'=>exact hup.elim
   | ok nx w' =>
    cases nx with
    | value u=>exact hK _ _ ⟨_,rfl⟩ hup
    | skip=>exact hK _ _ ⟨_,rfl⟩ (hup _)
    | enter f us =>
     obtain ⟨rfl,hc⟩:=hup;refine ⟨fun h=>by simp [Fen,Fence.wide] at h,(rE (hc (n-1))).mono ?_⟩
     rintro e w'' ⟨u,rfl,hs⟩;exact hK _ _ ⟨_,rfl⟩ hs
    | _=>exact hup.elim
  ·obtain ⟨_,hup⟩:=zZ hT hE hM (pY hS _ _ e2) h4 g
   have hk:jV st.m (upds st.m L):=pX hno;revert hup;generalize (execOp a.eval o).run P w=r;intro hup;cases r with
   | halt x w'=>exact hup.elim
   | ok nx w' =>
    cases nx with
    | value u =>
     obtain ⟨C',f,m,r⟩:=hup;exact hK _ _ ⟨_,rfl⟩ (mF hS hM hF hD f hk m r)
    | skip =>
     obtain ⟨rfl,C',f,m⟩:=hup;exact hK _ _ ⟨_,rfl⟩ (mF hS hM hF hD f hk m (.any _))
    | enter f us =>
     obtain ⟨rfl,hc⟩:=hup;refine ⟨fun h=>by simp [Fen,Fence.wide] at h,(rE (hc (n-1))).mono ?_⟩
     rintro e w'' ⟨u,rfl,C',f,m,r⟩;exact hK _ _ ⟨_,rfl⟩ (mF hS hM hF hD f hk m r)
    | _=>exact hup.elim
 | false =>
  obtain ⟨rfl,rfl⟩:=aJ k1;rw [mE hS h1 g];simp only [Bool.false_eq_true,if_false];exact ⟨fun f _=>trivial,hK _ _ ⟨_,rfl⟩ (mF hS hM hF hD (Fr.refl ..) .refl hM (.tup [] #[] rfl (fun i h=>by simp at h)))⟩
theorem nT{a:Act}{d:Option Nat}{v:Value}{i:Nat}(h:d≠some i):(a.put d v).tmps.getD i undef=a.tmps.getD i undef:=by
 cases d with
 | none=>rfl
 | some j =>
  have hne:j≠i:=fun e=>h (by rw [e])
  show (a.tmps.setIfInBounds j v).getD i undef=_;simp [kQ1,Array.getElem?_setIfInBounds_ne hne]
theorem aEu(hT:∀ t i,T t=some i→cI P t=some i)(hE:kV P E){ops:List Oper}:∀ (l:List Oper) (k:Nat) {st st':St} {s s':AS},(∀ j,l[j]? = ops[k+j]?)→aUi P T E ops l st s=some (st',s')→bA s' →
  ∀ (C0:Cx) (M0:Mem) (w0:World) (a:Act) (w:World),Sim P C0 M0 w0 st a w→∀ (ro:Option Nat) (n:Nat) (Q:Exit→Act→World→Prop),(∀ a' w',((∀ i,(∀ o∈l,o.dst≠some i)→a'.tmps.getD i undef=a.tmps.getD i undef)∧a'.defers=a.defers)→Sim P C0 M0 w0 st' a' w'→Q .normal a' w')→wpOpsIn (Fen ro) n P ops.toArray Q ((List.range l.length).map (k + ·)) a w
 | [],k,st,st',s,s',_,h,g,C0,M0,w0,a,w,hs,ro,n,Q,hQ=>by
  obtain ⟨rfl,rfl⟩:=aJ h;exact hQ _ _ ⟨fun _ _=>rfl,rfl⟩ hs
 | o::l,k,st,st',s,s',hl,h,g,C0,M0,w0,a,w,hs,ro,n,Q,hQ=>by
  obtain ⟨st1,s1,h1,k1⟩:=aD h;have h0:ops[k]? = some o:=by simpa using (hl 0).symm
  have ih:=fun a1 w1=>aEu hT hE l (k+1) (fun j=>by have:=hl (j+1);simpa [Nat.add_assoc,Nat.add_comm 1 j] using this) k1 g C0 M0 w0 a1 w1
  have hst:=aZl hT hE h1 (rG.good k1 g) C0 M0 w0 a w hs ro n (wpOpsIn (Fen ro) n P ops.toArray Q ((List.range l.length).map (k+1 + ·))) Q (fun a1 w1 hv hs1=>ih a1 w1 hs1 ro n Q fun a' w' hk hs'=>hQ a' w' ⟨fun i hi=>by
   obtain ⟨v,rfl⟩:=hv;rw [hk.1 i fun o' ho'=>hi o' (kQ6 _ ho'),nT (hi o (iZ ..))],by
   obtain ⟨v,rfl⟩:=hv;rw [hk.2];cases o.dst <;> rfl⟩ hs')
  rw [uL,List.range_succ_eq_map,iN,rQ];have hm:(List.range l.length).map ((k + ·) ∘ Nat.succ)=(List.range l.length).map (k+1 + ·):=by
   apply aAs;intro x _;simp only [Function.comp];omega
  rw [hm,Nat.add_zero,wpOpsIn_cons];unfold wpOpIn;simp only [List.getElem?_toArray,h0];exact hst
def wrR(c:Code)(i:Nat):Bool:=match c with
 | .region _ ops _=>ops.toList.any fun o=>match o.dst with
  | some j=>Nat.beq j i
  | none=>false
 | _=>true
def eC(P:Program)(k:Nat)(c:Code)(st:St)(e:Ex)(st':St):Prop:=∀ (C0:Cx) (M0:Mem) (w0:World) (a:Act) (w:World),M0.length≤k→Sim P C0 M0 w0 st a w→∀ (ro:Option Nat) (n:Nat),c.wpIn (Fen ro) n P (fun e' a' w'=>e'=e.toExit∧Sim P C0 M0 w0 st' a' w'∧(∀ i,wrR c i=false→a'.tmps.getD i undef=a.tmps.getD i undef)∧a'.defers=a.defers) a w
noncomputable def bLy(c:Code)(st:St):Ask (Ex × St):=match c with
 | .region _ ops false=>do
  let st' ← aUi Tp tT EO ops.toList ops.toList st
  pure (.normal,st')
 | _=>fail
theorem eC.fin{k:Nat}{c:Code}{st st':St}{e:Ex}{g:Gh}{o:List OI}{l:List Prop}(h:aJv k g (bLy c st (asg o))=some (e,st',l,[]))(gd:bA (out l)):eC Tp k c st e st':=by
 unfold aJv at h
 split at h
 ·rename_i e1 st1 s hr
  split at h
  ·rename_i st2 hg
   simp only [Option.some.injEq,Prod.mk.injEq] at h
   obtain ⟨rfl,rfl,rfl,hs⟩:=h;unfold bLy at hr
   split at hr
   ·rename_i id ops
    obtain ⟨st3,s1,h1,k1⟩:=aD hr;obtain ⟨he,rfl⟩:=aJ k1;cases he;intro C0 M0 w0 a w hk hsm ro n;refine wpIn_region ?_;have:=aEu aEg aEf ops.toList 0 (fun j=>by simp) h1 (fun p hp=>gd p hp) C0 M0 w0 a w hsm ro n (fun e' a' w'=>e'=Ex.normal.toExit∧Sim Tp C0 M0 w0 st2 a' w'∧(∀ i,wrR (.region id ops false) i=false→a'.tmps.getD i undef=a.tmps.getD i undef)∧a'.defers=a.defers) (fun a' w' hkp h'=>⟨rfl,eK hk hg h',fun i hi=>hkp.1 i fun o ho e=>by
     unfold wrR at hi
     have:=List.any_eq_false.1 hi o ho;rw [e] at this
     exact this (Nat.beq_refl i),hkp.2⟩)
    simpa using this
   ·cases hr
  ·cases h
 ·cases h
end KV
end Go.Proofs
end
namespace Go.Proofs
namespace KV
section
variable {dl:Int}{sk dc:Lqq}

noncomputable abbrev wR:Code:=sub (cd Tryz.f122) [1,1,1,1,1,0,1,0,0]
noncomputable abbrev aBv:Code:=sub (cd Tryz.f128) [1,0,0,0]
theorem aPy:((0:Int) != (0:Int))=false:=by first | decide | simp
theorem bSi{bib y0 y1:Int}(h0:bO dl sk dc)(h1:uni 2 (aB sk)∧(aB sk).length≤1000)(h2:(aL (aB sk) 0).length≤1000)(h3:(0:Int)≤(bC (fun x=>decide (bib=x)) (aL (aB sk) 0)))(h4:(aB sk)[(bC (fun x=>decide (bib=x)) (aL (aB sk) 0)).toNat]? = some [y0,y1])(h5:0≤(bC (fun x=>decide (bib=x)) (aL (aB sk) 0)))(h6:uni 2 (aB sk)){base:Nat}:FV Tp 135 [(.p (.agg (bP dl sk dc))),(pI bib)] base (.tup [(.rp (aI dl (aB sk) (aB dc)) 0),(.p (.agg [(aA y0),(aA y1)])),(pI 0)]) []:=by
 exact FV.fin Tryz.func135 rfl (o:=[.c (.tup [(.rp (aI dl (aB sk) (aB dc)) 0),(pI 0)]) [],bF,.x (.agg (bP dl (aB sk) (aB dc))),.c (.own 2) [(2,(.row 3 ((aL (aB sk) 0).length) ((aL (aB sk) 0).map aA)))],.c (pI (bC (fun x=>decide (bib=x)) (aL (aB sk) 0))) [],bF,.x (.sl ((aB sk).length) ((aB sk).flatten.map aA)),.x (.agg [(aA y0),(aA y1)])]) (l:=[_,_,0≤(bC (fun x=>decide (bib=x)) (aL (aB sk) 0))∧(bC (fun x=>decide (bib=x)) (aL (aB sk) 0))<(((aB sk).length:Nat):Int)∧((bC (fun x=>decide (bib=x)) (aL (aB sk) 0)).toNat*2)<((aB sk).flatten.map aA).length,(aI dl (aB sk) (aB dc))[1]? = some (.sl ((aB sk).length) ((aB sk).flatten.map aA)),_,FC Tp 126 [(.own 2),(pI bib)] [(2,(.row 3 ((aL (aB sk) 0).length) ((aL (aB sk) 0).map aA)))] 3 (pI (bC (fun x=>decide (bib=x)) (aL (aB sk) 0))) [],_,some (.agg (((aI dl (aB sk) (aB dc)).drop 0).take 3):PV)=some (.agg (bP dl (aB sk) (aB dc))),0+3≤(aI dl (aB sk) (aB dc)).length,_,_]) (by kernel_rfl) (gc (aV (i:=(bC (fun x=>decide (bib=x)) (aL (aB sk) 0)).toNat) h6 h4) (gc (bG (i:=(bC (fun x=>decide (bib=x)) (aL (aB sk) 0)).toNat) h6 h4) (gc (bZ (k:=2) (i:=(bC (fun x=>decide (bib=x)) (aL (aB sk) 0))) (by decide) h6 h5 h4) (gc rfl (gc (bU h3) (gc (fv (aBd (aL (aB sk) 0) bib h2)) (gc (fk 2 (mV dl (aB sk) (aB dc) h1) rfl) (gc rfl (gc (by first | decide | simp) (gc aPy (gc (fk 2 (jN dl sk dc h0) rfl) gn)))))))))))
theorem bSj(h0:bO dl sk dc)(h1:cE (aB dc)){base:Nat}:FV Tp 19 [(.p (.agg (bP dl sk dc)))] base (.tup [(.p (aH (aS dl (aB dc)))),(pI 0)]) []:=by
 exact FV.frz (FMM.fin (k:=0) (g:=⟨[],[],[1],[]⟩) rfl Tryz.func19 rfl (o:=[.c (.tup [(.rp (aI dl (aB sk) (aB dc)) 0),(pI 0)]) [],bF,.c (.own 1) [(1,(.row 3 ((aS dl (aB dc)).length) ((aS dl (aB dc)).map aA)))]]) (l:=[_,_,_]) (by kernel_rfl) (gc (fk 1 (qL (dl:=dl) (sk:=(aB sk)) (dc:=(aB dc)) h1) rfl) (gc aPy (gc (fk 1 (jN dl sk dc h0) rfl) gn)))) (by kernel_rfl)
def iS(dl:Int)(sk:Lqq)(dc:Lqq)(on:Nat)(oc:List PV)(i:Nat)(te:List (Value × PV))(tk:Nat):St:=⟨fr 44 [(1,(.fn 123 [] [])),(4,(.p bX)),(5,(pI 0)),(6,(.rp (aI dl (aB sk) (aB dc)) 0)),(8,(.ptr 7 0)),(9,(.own 8)),(26,(.p (.sl ((aB dc).length) ((aB dc).flatten.map aA)))),(27,(pI (((aB dc).length:Nat):Int))),(28,(pI (i:Int)))],[some (vB0 dl (aB sk) (aB dc)),some (.box 33 [(.p bX)]),some vB2,some (.mp te tk),some (.box 207 [(.mp 3)]),some (vB5 dl (aB sk) (aB dc)),some vB6,some vB2,some (.row 3 on oc)]⟩
theorem bSk{o'0:List Int}{i'1:Nat}{t'2:Lqb}(h0:bO dl sk dc)(hl1:aM Tp 0 wR (iS dl sk dc 0 [] 0 (aF ([]:Lqb)) 0) (.exit 0) (iS dl sk dc o'0.length (o'0.map aA) i'1 (aF t'2) t'2.length)){base:Nat}:FV Tp 122 [(.p (.agg (bP dl sk dc))),(.fn 123 [] [])] base (.tup [(.p (aH o'0)),(pI 0)]) []:=by
 exact FV.frz (FMM.fin (k:=0) (g:=⟨[],[],[8],[]⟩) rfl Tryz.func122 rfl (o:=[.c (.tup [(.rp (aI dl (aB sk) (aB dc)) 0),(pI 0)]) [],bF,.c (.agg (kVL 5 6 1 3 7 2)) [(1,(vB0 dl (aB sk) (aB dc))),(2,(.box 33 [(.p bX)])),(3,(.box 139 (kVL 5 6 1 3 7 2))),(4,(.mp (aF ([]:Lqb)) 0)),(5,(.box 207 [(.mp 4)])),(6,(vB5 dl (aB sk) (aB dc))),(7,(.box 209 [(.fn 153 [] [(.ptr 1 0),(.ptr 3 0)])]))],.x (.sl ((aB dc).length) ((aB dc).flatten.map aA)),.k 1 ⟨(rng [(0,1),(2,2),(7,1),(10,16),(29,14)]),[1,2,3,4,5,6,7,8,9],[],[(9,3)]⟩ (.exit 0) (iS dl sk dc o'0.length (o'0.map aA) i'1 (aF t'2) t'2.length)]) (l:=[_,(aI dl (aB sk) (aB dc))[2]? = some (.sl ((aB dc).length) ((aB dc).flatten.map aA)),FC Tp 87 [(.rp (aI dl (aB sk) (aB dc)) 0),(.p bX)] [] 1 (.agg (kVL 5 6 1 3 7 2)) [(1,(vB0 dl (aB sk) (aB dc))),(2,(.box 33 [(.p bX)])),(3,(.box 139 (kVL 5 6 1 3 7 2))),(4,(.mp (aF ([]:Lqb)) 0)),(5,(.box 207 [(.mp 4)])),(6,(vB5 dl (aB sk) (aB dc))),(7,(.box 209 [(.fn 153 [] [(.ptr 1 0),(.ptr 3 0)])]))],_,_]) (by kernel_rfl) (gc hl1.code (gc rfl (gc (FMM.fcN (k:=7) rfl (ids:=[]) (yT (dl:=dl) (sk:=(aB sk)) (dc:=(aB dc))) (by kernel_rfl)) (gc aPy (gc (fk 1 (jN dl sk dc h0) rfl) gn)))))) (by kernel_rfl)
theorem aZv{o:List Int}{i:Nat}{t:Lqb}{y100 y101 y102 y103 y104 y105:Int}{b106:Bool}{T107:Lqb}{o':List Int}{i':Nat}{t':Lqb}(h0:(i:Int)<(((aB dc).length:Nat):Int))(h1:(aB dc)[i]? = some [y100,y101,y102,y103,y104,y105])(h2:uni 6 (aB dc))(h3:bIm 123 dl (aB sk) (aB dc) bX [y100,y101,y102,y103,y104,y105] b106 t T107)(h4:b106=true)(h5:[(aA y100)].length=1*1∧o.length+1≤1000000)(h6:inR (((i+1):Nat):Int))(eo'n:o'.length=(o.length+1))(eo'c:o'.map aA=((o.map aA)++[(aA y100)]))(ei':i'=(i+1))(et'e:aF t'=(aF T107))(et'k:t'.length=T107.length):aC Tp 0 wR (iS dl sk dc o.length (o.map aA) i (aF t) t.length) .normal (iS dl sk dc o'.length (o'.map aA) i' (aF t') t'.length):=by
 subst ei';have raw:aC Tp 0 wR (iS dl sk dc o.length (o.map aA) i (aF t) t.length) .normal (iS dl sk dc (o.length+1) ((o.map aA)++[(aA y100)]) (i+1) (aF T107) T107.length):=aC.fin (g:=⟨(rng [(0,1),(2,2),(7,1),(10,16),(29,14)]),[0,1,2,3,4,5,6,7,11],[],[]⟩) (o:=[bT,.x (dcE y100 y101 y102 y103 y104 y105),.c (pB b106) (vU dl (aB sk) (aB dc) bX T107),bT]) (l:=[_,_,_,FC Tp 123 [(.rp (aI dl (aB sk) (aB dc)) 0),fT,(.p (dcE y100 y101 y102 y103 y104 y105))] [(4,(.box 207 [(.mp 3)])),(5,(vB5 dl (aB sk) (aB dc))),(0,(vB0 dl (aB sk) (aB dc))),(2,vB2),(6,vB6),(1,(.box 33 [(.p bX)])),(3,(.mp (aF t) t.length))] 10 (pB b106) (vU dl (aB sk) (aB dc) bX T107),_,_,0≤(i:Int)∧(i:Int)<(((aB dc).length:Nat):Int)∧(i*6)<((aB dc).flatten.map aA).length,_]) (by kernel_rfl) (gc h6 (gc h5 (gc h4 (gc (FMM.fc (ids:=[0,1,2,3,4,5,6]) h3 (by kernel_rfl)) (gc (aV (i:=i) h2 h1) (gc (bG (i:=i) h2 h1) (gc (bZ (k:=6) (i:=(i:Int)) (by decide) h2 (kQ3 _) h1) (gc (bD h0) gn))))))))
 exact raw.cast (by rw [eo'n,eo'c,et'e,et'k])
theorem aZw{o:List Int}{i:Nat}{t:Lqb}{y100 y101 y102 y103 y104 y105:Int}{b106:Bool}{T107:Lqb}{i':Nat}{t':Lqb}(h0:(i:Int)<(((aB dc).length:Nat):Int))(h1:(aB dc)[i]? = some [y100,y101,y102,y103,y104,y105])(h2:uni 6 (aB dc))(h3:bIm 123 dl (aB sk) (aB dc) bX [y100,y101,y102,y103,y104,y105] b106 t T107)(h4:b106=false)(h5:inR (((i+1):Nat):Int))(ei':i'=(i+1))(et'e:aF t'=(aF T107))(et'k:t'.length=T107.length):aC Tp 0 wR (iS dl sk dc o.length (o.map aA) i (aF t) t.length) .normal (iS dl sk dc o.length (o.map aA) i' (aF t') t'.length):=by
 subst ei';have raw:aC Tp 0 wR (iS dl sk dc o.length (o.map aA) i (aF t) t.length) .normal (iS dl sk dc o.length (o.map aA) (i+1) (aF T107) T107.length):=aC.fin (g:=⟨(rng [(0,1),(2,2),(7,1),(10,16),(29,14)]),[0,1,2,3,4,5,6,7,8],[],[]⟩) (o:=[bT,.x (dcE y100 y101 y102 y103 y104 y105),.c (pB b106) (vU dl (aB sk) (aB dc) bX T107),bF]) (l:=[_,_,FC Tp 123 [(.rp (aI dl (aB sk) (aB dc)) 0),fT,(.p (dcE y100 y101 y102 y103 y104 y105))] [(4,(.box 207 [(.mp 3)])),(5,(vB5 dl (aB sk) (aB dc))),(0,(vB0 dl (aB sk) (aB dc))),(2,vB2),(6,vB6),(1,(.box 33 [(.p bX)])),(3,(.mp (aF t) t.length))] 10 (pB b106) (vU dl (aB sk) (aB dc) bX T107),_,_,0≤(i:Int)∧(i:Int)<(((aB dc).length:Nat):Int)∧(i*6)<((aB dc).flatten.map aA).length,_]) (by kernel_rfl) (gc h5 (gc h4 (gc (FMM.fc (ids:=[0,1,2,3,4,5,6]) h3 (by kernel_rfl)) (gc (aV (i:=i) h2 h1) (gc (bG (i:=i) h2 h1) (gc (bZ (k:=6) (i:=(i:Int)) (by decide) h2 (kQ3 _) h1) (gc (bD h0) gn)))))))
 exact raw.cast (by rw [et'e,et'k])
theorem aZx{o:List Int}{i:Nat}{t:Lqb}(h0:(((aB dc).length:Nat):Int)≤(i:Int)):aC Tp 0 wR (iS dl sk dc o.length (o.map aA) i (aF t) t.length) (.exit 0) (iS dl sk dc o.length (o.map aA) i (aF t) t.length):=by
 exact aC.fin (g:=⟨(rng [(0,1),(2,2),(7,1),(10,16),(29,14)]),[0,1,2,3,4,5,6,7,8],[],[]⟩) (o:=[bF]) (l:=[_]) (by kernel_rfl) (gc (bU h0) gn)
theorem bUb{ov:PV}{T:Lqb}{x0 x1 x2 x3 x4 x5:Int}{b0:Bool}{T1:Lqb}(h0:pO dl sk dc ov [x0,x1,x2,x3,x4,x5] b0 T T1):FMM Tp 123 [(.rp (aI dl sk dc) 0),fT,(.p (dcE x0 x1 x2 x3 x4 x5))] (cW dl sk dc ov T) (pB b0) (cW dl sk dc ov T1):=by
 exact FMM.fin (k:=7) (g:=⟨[],[],[],[]⟩) rfl Tryz.func123 rfl (o:=[.c (pB b0) (vU dl sk dc ov T1)]) (l:=[FC Tp 154 [(.p (dcE x0 x1 x2 x3 x4 x5)),(.ptr 4 0),(.ptr 5 0),(.ptr 0 0),(.ptr 2 0)] [(4,(.box 207 [(.mp 3)])),(5,(vB5 dl sk dc)),(0,(vB0 dl sk dc)),(2,vB2),(3,(.mp (aF T) T.length)),(6,vB6),(1,(.box 33 [(.p ov)]))] 9 (pB b0) (vU dl sk dc ov T1)]) (by kernel_rfl) (gc (FMM.fc (ids:=[0,1,2,3,4,5,6]) h0 (by kernel_rfl)) gn)
def iD(dl:Int)(sk:Lqq)(dc:Lqq)(u0:Int)(u1:Int)(u2:Int)(u3:Int)(u4:Int)(u5:Int):St:=⟨fr 26 [(0,(.rp (aI dl sk dc) 0)),(3,(.ptr 0 0))],[some (.box 44 [(pI u0),(pI u1),(pI u2),(pI u3),(pI u4),(pI u5)])]⟩
theorem bSl{x0 x1 x2 x3 x4 x5 u0'0 u1'1 u2'2 u3'3 u4'4 u5'5:Int}(hl0:aM Tp 0 aBv (iD dl sk dc x0 x1 x2 x3 x4 x5) (.exit 0) (iD dl sk dc u0'0 u1'1 u2'2 u3'3 u4'4 u5'5)){base:Nat}:FV Tp 128 [(.rp (aI dl sk dc) 0),(.p (dcE x0 x1 x2 x3 x4 x5))] base (pI u3'3) []:=by
 exact FV.fin Tryz.func128 rfl (o:=[.k 4 ⟨(rng [(1,2),(4,20)]),[0],[],[]⟩ (.exit 0) (iD dl sk dc u0'0 u1'1 u2'2 u3'3 u4'4 u5'5)]) (l:=[_]) (by kernel_rfl) (gc hl0.code gn)
theorem bSm{x0 x1 x2 x3 x4 x5 u0'0 u1'1 u2'2 u3'3 u4'4 u5'5:Int}(hl0:aM Tp 0 aBv (iD dl sk dc x0 x1 x2 x3 x4 x5) .ret (cH (iD dl sk dc u0'0 u1'1 u2'2 u3'3 u4'4 u5'5) [(4,(pI 0))])){base:Nat}:FV Tp 128 [(.rp (aI dl sk dc) 0),(.p (dcE x0 x1 x2 x3 x4 x5))] base (pI 0) []:=by
 exact FV.fin Tryz.func128 rfl (o:=[.k 4 ⟨(rng [(1,2),(4,20)]),[0],[],[]⟩ .ret (cH (iD dl sk dc u0'0 u1'1 u2'2 u3'3 u4'4 u5'5) [(4,(pI 0))])]) (l:=[_]) (by kernel_rfl) (gc hl0.code gn)
theorem aZy{u0 u1 u2 u3 u4 u5 y100 y101 y102 y103 y104 y105:Int}(h0:(decide (u1≤4))=false)(h1:cJ .i64 (atF dc.reverse) (.int .i64 u5))(h2:(dL (atF dc.reverse) (.int .i64 u5))=true)(h3:fD (atF dc.reverse) (.int .i64 u5)=some (dcE y100 y101 y102 y103 y104 y105)):aC Tp 0 aBv (iD dl sk dc u0 u1 u2 u3 u4 u5) .normal (iD dl sk dc y100 y101 y102 y103 y104 y105):=by
 exact aC.fin (g:=⟨(rng [(1,2),(4,20)]),[0],[],[]⟩) (o:=[.c (pB (decide (u1≤4))) [],bT,.x (.mp (atF dc.reverse)),bT,.x (dcE y100 y101 y102 y103 y104 y105)]) (l:=[_,_,_,(aI dl sk dc)[3]? = some (.mp (atF dc.reverse)),_,_]) (by kernel_rfl) (gc h3 (gc h2 (gc h1 (gc rfl (gc (cQ h0) (gc (fk 1 (eH u1) rfl) gn))))))
theorem aEy{u0 u1 u2 u3 u4 u5:Int}(h0:(decide (u1≤4))=false)(h1:cJ .i64 (atF dc.reverse) (.int .i64 u5))(h2:(dL (atF dc.reverse) (.int .i64 u5))=false):aC Tp 0 aBv (iD dl sk dc u0 u1 u2 u3 u4 u5) .ret (cH (iD dl sk dc u0 u1 u2 u3 u4 u5) [(4,(pI 0))]):=by
 exact aC.fin (g:=⟨(rng [(1,2),(5,19)]),[0],[],[]⟩) (o:=[.c (pB (decide (u1≤4))) [],bT,.x (.mp (atF dc.reverse)),bF]) (l:=[_,_,(aI dl sk dc)[3]? = some (.mp (atF dc.reverse)),_,_]) (by kernel_rfl) (gc h2 (gc h1 (gc rfl (gc (cQ h0) (gc (fk 1 (eH u1) rfl) gn)))))
theorem aEz{u0 u1 u2 u3 u4 u5:Int}(h0:(decide (u1≤4))=true):aC Tp 0 aBv (iD dl sk dc u0 u1 u2 u3 u4 u5) (.exit 0) (iD dl sk dc u0 u1 u2 u3 u4 u5):=by
 exact aC.fin (g:=⟨(rng [(1,2),(4,20)]),[0],[],[]⟩) (o:=[.c (pB (decide (u1≤4))) [],bF]) (l:=[_,_]) (by kernel_rfl) (gc (aX h0) (gc (fk 1 (eH u1) rfl) gn))
end
section
def bEv(sk:Lqq)(bib:Int):Int:=bC (fun x=>decide (bib=x)) (aL sk 0)
theorem bSf{dl:Int}{sk dc:Lqq}(h:bO dl sk dc):uni 2 (aB sk)∧(aB sk).length≤1000∧(aL (aB sk) 0).length≤1000:=by
 have:=h.len;refine ⟨lI h.us,by rw [fY];omega,by rw [uQ,fY];omega⟩
theorem bEw{dl:Int}{sk dc:Lqq}(h:bO dl sk dc){bib:Int}{i:Nat}{s0 s1:Int}(hp:bEv (aB sk) bib=(i:Int))(hs:(aB sk)[i]? = some [s0,s1]){base:Nat}:FV Tp 135 [.p (.agg (bP dl sk dc)),.p (aA bib)] base (.tup [pK dl (aB sk) (aB dc),.p (.agg [aA s0,aA s1]),.p (aA 0)]) []:=by
 obtain ⟨h1,h2,h3⟩:=bSf h;have hp':bC (fun x=>decide (bib=x)) (aL (aB sk) 0)=(i:Int):=hp
 exact bSi h ⟨h1,h2⟩ h3 (by rw [hp'];omega) (by rw [hp'];simpa using hs) (by rw [hp'];omega) h1
theorem bEx{dl:Int}{sk dc:Lqq}(h:bO dl sk dc){base:Nat}:FV Tp 19 [.p (.agg (bP dl sk dc))] base (.tup [.p (aH (aS dl (aB dc))),.p (aA 0)]) []:=bSj h (eZ h)
def dV(q:List Int→Bool)(dc:Lqq):List Int:=(dc.filter q).map dN
theorem bSg{dl:Int}{sk dc:Lqq}(h:bO dl sk dc)(q:List Int→Bool)
  (hq:∀ x∈aB dc,∀ T,cD dl [] (aB dc) T→∃ T',cD dl [] (aB dc) T'∧bIm 123 dl (aB sk) (aB dc) bX x (q x) T T') {base:Nat}:FV Tp 122 [.p (.agg (bP dl sk dc)),.fn 123 [] []] base (.tup [.p (aH (dV q (aB dc))),.p (aA 0)]) []:=by
 have hd:=eZ h;have hlen:=hd.len;obtain ⟨acc,⟨h1,h2⟩,h3⟩:=aM.ex (P:=Tp) (k:=0) (b:=sub (cd Tryz.f122) [1,1,1,1,1,0,1,0,0]) (e := .exit 0) (fun i (a:List Int × Lqb)=>iS dl sk dc a.1.length (a.1.map aA) i (aF a.2) a.2.length)
  (fun a=>iS dl sk dc a.1.length (a.1.map aA) (aB dc).length (aF a.2) a.2.length)
  (fun i a=>cD dl [] (aB dc) a.2∧a.1=(((aB dc).take i).filter q).map dN) (by simp) (aB dc).length
  (fun i acc hi hI=>by
   obtain ⟨o,T1⟩:=acc;obtain ⟨h1,h2⟩:=hI;dsimp only at h1 h2
   have hm:=iA hi;obtain ⟨a,k,c,d,e,f,hy⟩:=len6 (hd.ud _ hm);have hx:(aB dc)[i]? = some [a,k,c,d,e,f]:=by rw [kQ0 hi,hy]
   rw [hy] at hm
   have ho:o.length≤1000:=by
    rw [h2,eP];have:=vX q ((aB dc).take i);rw [lC] at this;omega
   have et:(((aB dc).take (i+1)).filter q).map dN=o++if q [a,k,c,d,e,f] then [a] else []:=by
    rw [List.take_add_one,hx,oJ,iB,← h2]
    congr 1
    show (List.filter q [[a,k,c,d,e,f]]).map dN=_;cases hq:q [a,k,c,d,e,f] <;> simp [hq]
   rw [et];obtain ⟨T2,q1,q2⟩:=hq _ hm T1 h1;cases hc:q [a,k,c,d,e,f] with
   | true =>
    rw [hc] at q2
    exact ⟨(o++[a],T2),⟨q1,by simp⟩,aZv (o:=o) (o':=o++[a]) (by omega) hx hd.ud q2 rfl ⟨rfl,by omega⟩ (aP (by omega)) (by simp) (by simp) rfl rfl rfl⟩
   | false =>
    rw [hc] at q2
    exact ⟨(o,T2),⟨q1,by simp⟩,aZw (by omega) hx hd.ud q2 rfl (aP (by omega)) rfl rfl rfl⟩)
  (fun acc hI=>aZx (by omega)) (acc:=([],[])) ⟨cD.nil,by simp⟩
 obtain ⟨o,T1⟩:=acc;dsimp only at h1 h2 h3
 rw [List.take_length] at h2
 rw [show dV q (aB dc)=o from h2.symm]
 exact bSk h h3
theorem bUn{dl:Int}{sk dc:Lqq}{oc:List Int}{ov:PV}(hd:cE dc)(hov:∀ n,qN ov n (oc.contains n)){x:List Int}(hx:x∈dc){T:Lqb}(hT:cD dl oc dc T):∃ T',cD dl oc dc T'∧bIm 123 dl sk dc ov x (cK dl oc dc x) T T':=by
 obtain ⟨T',h1,h2⟩:=aWu (sk:=sk) hd hov hx T hT;obtain ⟨a,b,c,d,e,f,rfl⟩:=len6 (hd.ud x hx);exact ⟨T',h1,bUb h2⟩
theorem aSm{q:Lqq}(hq:(q.map dN).Nodup):atF q=q.map fun x=>(.int .i64 (dN x),rS x):=by
 have key:∀ (q p:Lqq),((p++q).map dN).Nodup→q.foldl kC (p.map fun x=>(.int .i64 (dN x),rS x))=(p++q).map fun x=>(.int .i64 (dN x),rS x):=by
  intro q
  induction q with
  | nil=>intro p _;simp
  | cons x q ih =>
   intro p h;rw [uM];have hn:dL (p.map fun x=>((.int .i64 (dN x),rS x):Value × PV)) (.int .i64 (dN x))=false:=by
    unfold dL;rw [List.any_eq_false];intro e he;obtain ⟨y,hy,rfl⟩:=eQ.1 he;rw [iB,List.nodup_append] at h
    have:=h.2.2 (dN y) (eQ.2 ⟨y,hy,rfl⟩) (dN x) (by simp)
    simpa [iG] using this
   have hst:kC (p.map fun x=>((.int .i64 (dN x),rS x):Value × PV)) x=(p.map fun x=>((.int .i64 (dN x),rS x):Value × PV))++[(.int .i64 (dN x),rS x)]:=by
    unfold kC;rw [hn,if_neg (by simp)]
   rw [hst];have e:(p.map fun x=>((.int .i64 (dN x),rS x):Value × PV))++[(.int .i64 (dN x),rS x)]=(p++[x]).map fun x=>((.int .i64 (dN x),rS x):Value × PV):=by simp
   have e2:p++x::q=(p++[x])++q:=by simp
   rw [e,ih (p++[x]) (by rw [← e2];exact h),e2]
 exact key q [] (by simpa using hq)
theorem aLe{dc:Lqq}(h:cE dc):(dc.reverse.map dN).Nodup:=by
 rw [List.map_reverse,List.Nodup,List.pairwise_reverse,List.pairwise_map];exact h.up.imp fun h=>by omega
theorem vB{dc:Lqq}(h:cE dc){n:Int}(hn:inR n):cJ .i64 (atF dc.reverse) (.int .i64 n):=by
 have ha:wH (atF dc.reverse):=bDq fun x hx=>by have:=fO h (yF.1 hx);omega
 refine ⟨ha.ky,?_,ha.nd⟩;show (decide (IntKind.i64=IntKind.i64) && (Lit.int .i64 n).wf)=true;have:(Lit.int .i64 n).wf=true:=by
  have e1:IntKind.i64.min = -9223372036854775808:=rfl;have e2:IntKind.i64.max=9223372036854775807:=rfl;unfold inR at hn
  show (decide _ && decide _)=true;rw [kQ7,decide_eq_true_eq,decide_eq_true_eq,e1,e2];omega
 rw [this];rfl
theorem aPx{dc:Lqq}(h:cE dc){x:List Int}(hx:x∈dc):dL (atF dc.reverse) (.int .i64 (dN x))=true∧fD (atF dc.reverse) (.int .i64 (dN x))=some (rS x):=by
 rw [aSm (aLe h)];have hf:dc.reverse.find? (fun y=>decide (dN y=dN x))=some x:=by
  cases hf:dc.reverse.find? (fun y=>decide (dN y=dN x)) with
  | none =>
   have:=aGh.1 hf x (yF.2 hx);simp at this
  | some y =>
   have h1:=uJ hf;have h2:dN y=dN x:=by simpa using aNl hf
   rw [yU h (yF.1 h1) hx h2]
 constructor
 ·unfold dL
  rw [List.any_map];exact List.any_eq_true.2 ⟨x,yF.2 hx,by simp [iG]⟩
 ·unfold fD
  rw [List.find?_map];have e:(fun e:Value × PV=>decide (iG e.1=iG (Value.int IntKind.i64 (dN x)))) ∘ (fun x:List Int=>((Value.int .i64 (dN x),rS x):Value × PV))=fun y=>decide (dN y=dN x):=rfl
  rw [e,hf];rfl
theorem aSn{dc:Lqq}(h:cE dc){n:Int}(hn:∀ x∈dc,dN x≠n):dL (atF dc.reverse) (.int .i64 n)=false:=by
 rw [aSm (aLe h)];unfold dL;rw [List.any_map,List.any_eq_false];intro x hx;have:=hn x (yF.1 hx);show ¬ (decide (dN x=n))=true;simpa using this
def ofN(dc:Lqq)(n:Int):Option (List Int):=dc.find? fun x=>dN x == n
theorem vC{dc:Lqq}{n:Int}{x:List Int}(h:ofN dc n=some x):x∈dc∧dN x=n:=⟨uJ h,by simpa using aNl h⟩
theorem aLf{dc:Lqq}{n:Int}(h:ofN dc n=none):∀ x∈dc,dN x≠n:=fun x hx=>by simpa using aGh.1 h x hx
theorem aSo{dc:Lqq}(hd:cE dc){x:List Int}(hx:x∈dc):ofN dc (dN x)=some x:=by
 cases h:ofN dc (dN x) with
 | none=>exact absurd rfl (aLf h x hx)
 | some y=>obtain ⟨h1,h2⟩:=vC h;rw [yU hd h1 hx h2]
def sD(dc:Lqq):Nat→List Int→Int
 | 0,_=>0
 | k+1,x=>if dK x≤4 then dB x else match ofN dc (dAb x) with
  | some y=>sD dc k y
  | none=>0
def vD(dc:Lqq)(x:List Int):Int:=sD dc (10000+1) x
theorem bSh{dl:Int}{sk dc:Lqq}(hd:cE dc):∀ (k:Nat) (a b c d e f:Int),inR f→([a,b,c,d,e,f]∈dc∨b≤4∨∀ y∈dc,dN y≠f)→a<(k:Int) →
  (∃ a' b' c' d' e' f',sD dc (k+1) [a,b,c,d,e,f]=d'∧aM Tp 0 (sub (cd Tryz.f128) [1,0,0,0]) (iD dl sk dc a b c d e f) (.exit 0) (iD dl sk dc a' b' c' d' e' f')) ∨
  (sD dc (k+1) [a,b,c,d,e,f]=0∧∃ a' b' c' d' e' f',aM Tp 0 (sub (cd Tryz.f128) [1,0,0,0]) (iD dl sk dc a b c d e f) .ret (cH (iD dl sk dc a' b' c' d' e' f') [(4,.p (aA 0))])):=by
 intro k
 induction k with
 | zero =>
  intro a b c d e f hf hm hk
  by_cases h4:b≤4
  ·refine .inl ⟨a,b,c,d,e,f,?_,.exit (aEz (decide_eq_true h4)) (by simp)⟩
   unfold sD;rw [if_pos (show dK [a,b,c,d,e,f]≤4 from h4)];rfl
  ·rcases hm with hm | hm | hm
   ·have:1≤a:=(fO hd hm).1
    omega
   ·exact absurd hm h4
   ·refine .inr ⟨?_,a,b,c,d,e,f,.exit (aEy (decide_eq_false h4) (vB hd hf) (aSn hd hm)) (by simp)⟩
    unfold sD;rw [if_neg (show ¬ dK [a,b,c,d,e,f]≤4 from h4)]
    have:ofN dc (dAb [a,b,c,d,e,f])=none:=by
     cases h:ofN dc (dAb [a,b,c,d,e,f]) with
     | none=>rfl
     | some y=>exact absurd (vC h).2 (hm y (vC h).1)
    rw [this]
 | succ k ih =>
  intro a b c d e f hf hm hk
  by_cases h4:b≤4
  ·refine .inl ⟨a,b,c,d,e,f,?_,.exit (aEz (decide_eq_true h4)) (by simp)⟩
   unfold sD;rw [if_pos (show dK [a,b,c,d,e,f]≤4 from h4)];rfl
  ·have hu:sD dc (k+1+1) [a,b,c,d,e,f]=match ofN dc (dAb [a,b,c,d,e,f]) with | some y=>sD dc (k+1) y | none=>0:=by
    conv=>lhs;unfold sD
    rw [if_neg (show ¬ dK [a,b,c,d,e,f]≤4 from h4)]
   rw [hu];cases h:ofN dc (dAb [a,b,c,d,e,f]) with
   | none=>exact .inr ⟨rfl,a,b,c,d,e,f,.exit (aEy (decide_eq_false h4) (vB hd hf) (aSn hd (aLf h))) (by simp)⟩
   | some y =>
    obtain ⟨h1,h2⟩:=vC h
    rcases hm with hm | hm | hm
    ·obtain ⟨h3,h5⟩:=aPx hd h1
     rw [h2] at h3 h5
     have ho:=hd.ord _ hm;unfold orB at ho
     rw [if_neg (show ¬ [a,b,c,d,e,f].getD 1 0≤4 from h4)] at ho
     have ho2:=cN.1 ho;have ho3:f≤a-1:=ho2.2;obtain ⟨y0,y1,y2,y3,y4,y5,rfl⟩:=len6 (hd.ud y h1);have h2':y0=f:=h2;have hy5:=lJ hd _ h1;have hst:=aZy (dl:=dl) (sk:=sk) (dc:=dc) (u0:=a) (u1:=b) (u2:=c) (u3:=d) (u4:=e) (u5:=f) (decide_eq_false h4) (vB hd hf) h3 h5
     rcases ih y0 y1 y2 y3 y4 y5 (by have q1:0≤y5:=hy5.1;have q2:y5≤9998:=hy5.2;unfold inR;omega) (.inl h1) (by omega) with ⟨a',b',c',d',e',f',q1,q2⟩ | ⟨q1,a',b',c',d',e',f',q2⟩
     ·exact .inl ⟨a',b',c',d',e',f',q1,.step hst q2⟩
     ·exact .inr ⟨q1,a',b',c',d',e',f',.step hst q2⟩
    ·exact absurd hm h4
    ·exact absurd h2 (hm y h1)
theorem bEy{dl:Int}{sk dc:Lqq}(hd:cE dc){a b c d e f:Int}(hf:inR f)(hm:[a,b,c,d,e,f]∈dc∨b≤4∨∀ y∈dc,dN y≠f)(ha:a≤9999){base:Nat}:FV Tp 128 [pK dl sk dc,.p (.agg [aA a,aA b,aA c,aA d,aA e,aA f])] base (.p (aA (vD dc [a,b,c,d,e,f]))) []:=by
 unfold vD
 rcases bSh (dl:=dl) (sk:=sk) hd 10000 a b c d e f hf hm (by omega) with ⟨a',b',c',d',e',f',q1,q2⟩ | ⟨q1,a',b',c',d',e',f',q2⟩
 ·rw [q1];exact bSl q2
 ·rw [q1];exact bSm q2
end
section
section
variable {α:Type}

def mv(A:List α)(x:α)(j:Nat)(R:List α):List α:=A.take j++x::(A.drop j++R)

theorem wT(A:List α)(x:α)(j:Nat)(R:List α)(hj:j≤A.length):(mv A x j R).length=A.length+1+R.length:=by
 unfold mv;simp;omega

theorem aHs(A:List α)(x:α)(j:Nat)(R:List α)(hj:j≤A.length)(t:Nat) :
  (mv A x j R)[t]? = if t<j then A[t]? else if t=j then some x else if t≤A.length then A[t-1]? else R[t-A.length-1]? := by
 unfold mv
 by_cases h1:t<j
 ·rw [if_pos h1,aAr (by simp;omega),List.getElem?_take_of_lt h1]
 ·rw [if_neg h1,aAq (by simp;omega)]
  have hl:(A.take j).length=j:=by simp;omega
  rw [hl]
  by_cases h2:t=j
  ·rw [if_pos h2,show t-j=0 by omega];rfl
  ·rw [if_neg h2,show t-j=(t-j-1)+1 by omega,List.getElem?_cons_succ]
   by_cases h3:t≤A.length
   ·rw [if_pos h3,aAr (by simp;omega),List.getElem?_drop]
    congr 1;omega
   ·rw [if_neg h3,aAq (by simp;omega)]
    congr 1
    simp;omega

theorem bLb(A:List α)(x:α)(j:Nat)(R:List α)(hj:j≤A.length)(h0:0<j)(y:α)(hy:A[j-1]? = some y) :
  ((mv A x j R).set j y).set (j-1) x=mv A x (j-1) R:=by
 have hl:=wT A x j R hj;apply List.ext_getElem?;intro t;rw [List.getElem?_set,List.getElem?_set,aHs A x (j-1) R (by omega),aHs A x j R hj]
 simp only [sU,hl]
 by_cases h1:j-1=t
 ·subst h1
  rw [if_pos rfl,if_pos (by omega),if_neg (by omega),if_pos rfl]
 ·rw [if_neg h1]
  by_cases h2:j=t
  ·subst h2
   rw [if_pos rfl,if_pos (by omega),if_neg (by omega),if_neg (by omega),if_pos (by omega),hy]
  ·rw [if_neg h2]
   by_cases h3:t<j
   ·rw [if_pos h3,if_pos (by omega)]
   ·rw [if_neg h3,if_neg (by omega:¬ t=j),if_neg (by omega:¬ t<j-1),if_neg (by omega:¬ t=j-1)]

def nB(lt:α→α→Bool)(x:α)(A:List α):Nat:=(A.reverse.dropWhile (lt x)).length
def ins(lt:α→α→Bool)(A:List α)(x:α):List α:=A.take (nB lt x A)++x::A.drop (nB lt x A)
def isort(lt:α→α→Bool)(l:List α):List α:=l.foldl (ins lt) []

theorem kP{p:α→Bool}:∀ (l r:List α),(∀ x∈l,p x=true)→(l++r).dropWhile p=r.dropWhile p
 | [],_,_=>rfl
 | x::l,r,h=>by
  rw [List.cons_append,List.dropWhile_cons,if_pos (h x (by simp))]
  exact kP l r (fun y hy=>h y (by simp [hy]))

theorem aFb(lt:α→α→Bool)(x:α)(A:List α)(j:Nat)(hj:j≤A.length)(h:∀ t (_:t<A.length),j≤t→lt x A[t]=true)
  (h2:j=0∨∃ y,A[j-1]? = some y∧lt x y=false):nB lt x A=j:=by
 unfold nB;have e:A.reverse=(A.drop j).reverse++(A.take j).reverse:=by rw [← List.reverse_append,aUq]
 rw [e,kP]
 ·rcases h2 with h0 | ⟨y,hy,hlt⟩
  ·subst h0;simp
  ·by_cases h0:j=0
   ·subst h0;simp
   ·have e2:A.take j=A.take (j-1)++[y]:=by
     rw [show j=(j-1)+1 by omega,List.take_add_one,Nat.add_sub_cancel,hy];rfl
    have hl:(A.take (j-1)).length=j-1:=by simp;omega
    rw [e2,List.reverse_append];show ((y::(A.take (j-1)).reverse).dropWhile (lt x)).length=j;rw [List.dropWhile_cons,hlt];simp;omega
 ·intro z hz
  rw [yF] at hz
  obtain ⟨t,ht,rfl⟩:=List.getElem_of_mem hz;rw [List.getElem_drop];exact h (j+t) (by simp at ht;omega) (by omega)

theorem aQf(lt:α→α→Bool)(A:List α)(x:α):(ins lt A x).length=A.length+1:=by
 unfold ins;simp;have:nB lt x A≤A.length:=by
  unfold nB;have h2:((A.reverse).dropWhile (lt x)).length≤A.reverse.length:=(List.dropWhile_sublist _).length_le;simpa using h2
 omega

theorem bSu(A:List α)(x:α)(R:List α):mv A x A.length R=A++x::R:=by unfold mv;simp
theorem bEz(lt:α→α→Bool)(A:List α)(x:α)(R:List α):mv A x (nB lt x A) R=ins lt A x++R:=by unfold mv ins;simp

theorem vG(lt:α→α→Bool)(l:List α):(isort lt l).length=l.length:=by
 unfold isort;have:∀ (l A:List α),(l.foldl (ins lt) A).length=A.length+l.length:=by
  intro l
  induction l with
  | nil=>intro A;simp
  | cons x r ih=>intro A;rw [uM,ih,aQf];simp;omega
 rw [this];simp

theorem aQg(lt:α→α→Bool)(l:List α)(k:Nat)(h:k<l.length):isort lt (l.take (k+1))=ins lt (isort lt (l.take k)) l[k]:=by
 unfold isort;rw [List.take_succ_eq_append_getElem h,aJu];rfl
end
theorem len3{x:List Int}(h:x.length=3):∃ a b c,x=[a,b,c]:=by
 match x,h with
 | [a,b,c],_=>exact ⟨a,b,c,rfl⟩
theorem aFc{α:Type}(lt:α→α→Bool)(l:List α)(y:α):y∈isort lt l↔y∈l:=by
 unfold isort;have : ∀ (l A:List α),y∈l.foldl (ins lt) A↔y∈A∨y∈l:=by
  intro l
  induction l with
  | nil=>intro A;simp
  | cons x r ih =>
   intro A;rw [uM,ih];have:y∈ins lt A x↔y∈A∨y=x:=by
    unfold ins;rw [gV,fB];constructor
    ·rintro (h | h | h)
     ·exact Or.inl (List.mem_of_mem_take h)
     ·exact Or.inr h
     ·exact Or.inl (List.mem_of_mem_drop h)
    ·rintro (h | h)
     ·rw [← aUq (nB lt x A) A,gV] at h
      rcases h with h | h
      ·exact Or.inl h
      ·exact Or.inr (Or.inr h)
     ·exact Or.inr (Or.inl h)
   rw [this,fB];constructor
   ·rintro ((h | h) | h) <;> simp [h]
   ·rintro (h | h | h) <;> simp [h]
 rw [this];simp

section
variable {α:Type}
end
section
variable {α:Type}
end
end
section

noncomputable abbrev aFa:Code:=sub (cd Tryz.f216) [1,0,0,1,0,0,1,0,0]
noncomputable abbrev aLg:Code:=sub (cd Tryz.f216) [1,0,0]
theorem bSn{x:Int}{r0:Bool}(er0:r0=(x != x)){base:Nat}:FV Tp 168 [(pI x)] base (pB r0) []:=by
 subst er0;exact FV.fin Tryz.func168 rfl (o:=[]) (l:=[]) (by kernel_rfl) (gn)
theorem wS(x:Int){base:Nat}:FV Tp 168 [.p (aA x)] base (pB false) []:=bSn (by simp)
theorem bSo{x y:Int}(h0:x<y){base:Nat}:FV Tp 116 [(pI x),(pI y)] base (pI (-1:Int)) []:=by
 exact FV.fin Tryz.func116 rfl (o:=[.c (pB false) [],.c (pB false) [],bF,bF,bT]) (l:=[_,false=false,false=false,_,_]) (by kernel_rfl) (gc (bD h0) (gc rfl (gc rfl (gc (fk 0 (wS y) rfl) (gc (fk 0 (wS x) rfl) gn)))))
theorem bSp{x y:Int}(h0:y≤x)(h1:y<x){base:Nat}:FV Tp 116 [(pI x),(pI y)] base (pI 1) []:=by
 exact FV.fin Tryz.func116 rfl (o:=[.c (pB false) [],.c (pB false) [],bF,bF,bF,bT]) (l:=[_,_,false=false,false=false,_,_]) (by kernel_rfl) (gc (bD h1) (gc (bU h0) (gc rfl (gc rfl (gc (fk 0 (wS y) rfl) (gc (fk 0 (wS x) rfl) gn))))))
theorem bSq{x y:Int}(h0:y≤x)(h1:x≤y){base:Nat}:FV Tp 116 [(pI x),(pI y)] base (pI 0) []:=by
 exact FV.fin Tryz.func116 rfl (o:=[.c (pB false) [],.c (pB false) [],bF,bF,bF,bF]) (l:=[_,_,false=false,false=false,_,_]) (by kernel_rfl) (gc (bU h1) (gc (bU h0) (gc rfl (gc rfl (gc (fk 0 (wS y) rfl) (gc (fk 0 (wS x) rfl) gn))))))
def yK(x y:Int):Int:=if x<y then -1 else if y<x then 1 else 0
theorem bSr(x y:Int){base:Nat}:FV Tp 116 [.p (aA x),.p (aA y)] base (pI (yK x y)) []:=by
 unfold yK
 by_cases h1:x<y
 ·rw [if_pos h1];exact bSo h1
 ·rw [if_neg h1]
  by_cases h2:y<x
  ·rw [if_pos h2];exact bSp (by omega) h2
  ·rw [if_neg h2];exact bSq (by omega) (by omega)
def ltK(f:Nat)(x y:List Int):Bool:=decide (yK (x.getD f 0) (y.getD f 0)<0)
theorem aSp{a0 a1 a2 b0 b1 b2 r0:Int}(er0:r0=(yK a2 b2)){base:Nat}:FV Tp 152 [(.p (.agg [(aA a0),(aA a1),(aA a2)])),(.p (.agg [(aA b0),(aA b1),(aA b2)]))] base (pI r0) []:=by
 subst er0;exact FV.fin Tryz.func152 rfl (o:=[.c (pI (yK a2 b2)) []]) (l:=[_]) (by kernel_rfl) (gc (fk 2 (bSr a2 b2) rfl) gn)
def jO(l:Lqq)(i:Nat)(Ln:Nat)(Lc:List PV):St:=⟨fr 53 [(0,(.own 0)),(1,(pI 0)),(2,(pI (l.length:Int))),(3,(.fn 152 [] [])),(8,(pI (i:Int)))],[some (.row 48 Ln Lc)]⟩
theorem aSq{l:Lqq}{i'0:Nat}{L'1:Lqq}(hl0:aM Tp 1 aLg (jO l 1 l.length (l.flatten.map aA)) (.exit 0) (jO l i'0 L'1.length (L'1.flatten.map aA))):FMM Tp 216 [(.own 0),(pI 0),(pI (l.length:Int)),(.fn 152 [] [])] [some (.row 48 l.length (l.flatten.map aA))] (.tup []) [some (.row 48 L'1.length (L'1.flatten.map aA))]:=by
 exact FMM.fin (k:=1) (g:=⟨[],[],[],[]⟩) rfl Tryz.func216 rfl (o:=[.k 3 ⟨(rng [(4,4),(9,44)]),[],[],[]⟩ (.exit 0) (jO l i'0 L'1.length (L'1.flatten.map aA))]) (l:=[_,inR (1:Int)]) (by kernel_rfl) (gc hl0.code (gc (by unfold inR;omega) gn))
def gZ(l:Lqq)(i:Nat)(j:Int)(Mn:Nat)(Mc:List PV):St:=⟨fr 53 [(0,(.own 0)),(1,(pI 0)),(2,(pI (l.length:Int))),(3,(.fn 152 [] [])),(8,(pI (i:Int))),(9,(pI j)),(12,(pI (i:Int))),(13,(pI (l.length:Int))),(14,(pB (decide ((i:Int)<(l.length:Int))))),(17,(pI (i:Int)))],[some (.row 48 Mn Mc)]⟩
theorem aPz{l:Lqq}{i:Nat}{L:Lqq}{j'100:Int}{M'101:Lqq}{i':Nat}{L':Lqq}(h0:(i:Int)<(l.length:Int))(hl1:aM Tp 1 aFa (gZ l i (i:Int) L.length (L.flatten.map aA)) (.exit 2) (gZ l i j'100 M'101.length (M'101.flatten.map aA)))(h2:inR (((i+1):Nat):Int))(ei':i'=(i+1))(eL'n:L'.length=M'101.length)(eL'c:L'.flatten.map aA=(M'101.flatten.map aA)):aC Tp 1 aLg (jO l i L.length (L.flatten.map aA)) .normal (jO l i' L'.length (L'.flatten.map aA)):=by
 subst ei';have raw:aC Tp 1 aLg (jO l i L.length (L.flatten.map aA)) .normal (jO l (i+1) M'101.length (M'101.flatten.map aA)):=aC.fin (g:=⟨(rng [(4,4),(9,44)]),[],[],[]⟩) (o:=[bT,.k 5 ⟨(rng [(4,4),(10,2),(18,35)]),[],[],[]⟩ (.exit 2) (gZ l i j'100 M'101.length (M'101.flatten.map aA))]) (l:=[_,_,_]) (by kernel_rfl) (gc h2 (gc hl1.code (gc (bD h0) gn)))
 exact raw.cast (by rw [eL'n,eL'c])
theorem aBw{l:Lqq}{i:Nat}{L:Lqq}(h0:(l.length:Int)≤(i:Int)):aC Tp 1 aLg (jO l i L.length (L.flatten.map aA)) (.exit 0) (jO l i L.length (L.flatten.map aA)):=by
 exact aC.fin (g:=⟨(rng [(4,4),(9,44)]),[],[],[]⟩) (o:=[bF]) (l:=[_]) (by kernel_rfl) (gc (bU h0) gn)
theorem aQa{l:Lqq}{i:Nat}{j:Int}{M:Lqq}{y200 y201 y202 y203 y204 y205 j':Int}{M':Lqq}(h0:(0:Int)<j)(h1:M[j.toNat]? = some [y200,y201,y202])(h2:0≤j)(h3:uni 3 M)(h4:inR (j-1))(h5:M[(j-1).toNat]? = some [y203,y204,y205])(h6:0≤(j-1))(h7:(yK y202 y205)<0)(h8:[(aA y203),(aA y204),(aA y205)].length=3∧(j.toNat*3)+3≤(M.flatten.map aA).length)(h9:0≤(j-1)∧(j-1)<(M.length:Int))(h10:[(aA y200),(aA y201),(aA y202)].length=3∧((j-1).toNat*3)+3≤((M.flatten.map aA).take (j.toNat*3)++[(aA y203),(aA y204),(aA y205)]++(M.flatten.map aA).drop ((j.toNat*3)+3)).length)(ej':j'=(j-1))(eM'n:M'.length=M.length)(eM'c:M'.flatten.map aA=(((M.flatten.map aA).take (j.toNat*3)++[(aA y203),(aA y204),(aA y205)]++(M.flatten.map aA).drop ((j.toNat*3)+3)).take ((j-1).toNat*3)++[(aA y200),(aA y201),(aA y202)]++((M.flatten.map aA).take (j.toNat*3)++[(aA y203),(aA y204),(aA y205)]++(M.flatten.map aA).drop ((j.toNat*3)+3)).drop (((j-1).toNat*3)+3))):aC Tp 1 aFa (gZ l i j M.length (M.flatten.map aA)) .normal (gZ l i j' M'.length (M'.flatten.map aA)):=by
 subst ej';have raw:aC Tp 1 aFa (gZ l i j M.length (M.flatten.map aA)) .normal (gZ l i (j-1) M.length (((M.flatten.map aA).take (j.toNat*3)++[(aA y203),(aA y204),(aA y205)]++(M.flatten.map aA).drop ((j.toNat*3)+3)).take ((j-1).toNat*3)++[(aA y200),(aA y201),(aA y202)]++((M.flatten.map aA).take (j.toNat*3)++[(aA y203),(aA y204),(aA y205)]++(M.flatten.map aA).drop ((j.toNat*3)+3)).drop (((j-1).toNat*3)+3))):=aC.fin (g:=⟨(rng [(4,4),(10,2),(18,35)]),[],[],[]⟩) (o:=[bT,bT,bT,bT,bT,.x (.agg [(aA y200),(aA y201),(aA y202)]),bT,bT,bT,bT,bT,.x (.agg [(aA y203),(aA y204),(aA y205)]),bT,.c (pI (yK y202 y205)) [],bT,bT,bT,.x (.agg [(aA y203),(aA y204),(aA y205)]),.x (.agg [(aA y200),(aA y201),(aA y202)])]) (l:=[_,_,_,_,_,_,_,_,_,_,_,_,_,_,_,_,FC Tp 152 [(.p (.agg [(aA y200),(aA y201),(aA y202)])),(.p (.agg [(aA y203),(aA y204),(aA y205)]))] [] 1 (pI (yK y202 y205)) [],_,_,_,_,_,_,_,_,_,_,_,_,_,_,_,_,_,_]) (by kernel_rfl) (gc h4 (gc h10 (gc h9 (gc h8 (gc (cU (i:=j) h2 h1) (gc (aV (i:=j.toNat) h3 h1) (gc (bG (i:=j.toNat) h3 h1) (gc (cU (i:=j) h2 h1) (gc (aV (i:=(j-1).toNat) h3 h5) (gc (bG (i:=(j-1).toNat) h3 h5) (gc (cU (i:=(j-1)) h6 h5) (g2c h4 (gc (bD h7) (g2c (bD h0) (gc (FV.fc (aSp rfl) rfl) (gc (bD h0) (gc (aV (i:=(j-1).toNat) h3 h5) (gc (bG (i:=(j-1).toNat) h3 h5) (gc (bD h0) (gc (cU (i:=(j-1)) h6 h5) (gc (bD h0) (gc h4 (g3c (bD h0) (gc (aV (i:=j.toNat) h3 h1) (gc (bG (i:=j.toNat) h3 h1) (gc (bD h0) (gc (cU (i:=j) h2 h1) (g4c (bD h0) gn))))))))))))))))))))))))))))
 exact raw.cast (by rw [eM'n,eM'c])
theorem aQb{l:Lqq}{i:Nat}{j:Int}{M:Lqq}{y200 y201 y202 y203 y204 y205:Int}(h0:(0:Int)<j)(h1:M[j.toNat]? = some [y200,y201,y202])(h2:0≤j)(h3:uni 3 M)(h4:inR (j-1))(h5:M[(j-1).toNat]? = some [y203,y204,y205])(h6:0≤(j-1))(h7:(0:Int)≤(yK y202 y205)):aC Tp 1 aFa (gZ l i j M.length (M.flatten.map aA)) (.exit 2) (gZ l i j M.length (M.flatten.map aA)):=by
 exact aC.fin (g:=⟨(rng [(4,4),(10,2),(18,35)]),[],[],[]⟩) (o:=[bT,bT,bT,bT,bT,.x (.agg [(aA y200),(aA y201),(aA y202)]),bT,bT,bT,bT,bT,.x (.agg [(aA y203),(aA y204),(aA y205)]),bT,.c (pI (yK y202 y205)) [],bT,bT,bF]) (l:=[_,_,_,FC Tp 152 [(.p (.agg [(aA y200),(aA y201),(aA y202)])),(.p (.agg [(aA y203),(aA y204),(aA y205)]))] [] 1 (pI (yK y202 y205)) [],_,_,_,_,_,_,_,_,_,_,_,_,_,_,_,_,_,_]) (by kernel_rfl) (gc (bU h7) (g2c (bD h0) (gc (FV.fc (aSp rfl) rfl) (gc (bD h0) (gc (aV (i:=(j-1).toNat) h3 h5) (gc (bG (i:=(j-1).toNat) h3 h5) (gc (bD h0) (gc (cU (i:=(j-1)) h6 h5) (gc (bD h0) (gc h4 (g3c (bD h0) (gc (aV (i:=j.toNat) h3 h1) (gc (bG (i:=j.toNat) h3 h1) (gc (bD h0) (gc (cU (i:=j) h2 h1) (g4c (bD h0) gn))))))))))))))))
theorem aQc{l:Lqq}{i:Nat}{j:Int}{M:Lqq}(h0:j≤0):aC Tp 1 aFa (gZ l i j M.length (M.flatten.map aA)) (.exit 2) (gZ l i j M.length (M.flatten.map aA)):=by
 exact aC.fin (g:=⟨(rng [(4,4),(10,2),(18,35)]),[],[],[]⟩) (o:=[bF,bF,bF,bF,bF,bF,bF,bF,bF,bF,bF,bF,bF]) (l:=[_,_,_,_,_,_,_,_,_,_,_,_,_]) (by kernel_rfl) (g8c (bU h0) (g5c (bU h0) gn))
theorem bSs(l:Lqq)(i:Nat)(A R:Lqq)(hA:A.length<1000)(hi:i=A.length)(x0 x1 x2:Int)(hu:uni 3 (A++[x0,x1,x2]::R)):∀ m,m≤A.length→(∀ t (h:t<A.length),m≤t→ltK 2 [x0,x1,x2] A[t]=true) →
  aM Tp 1 aFa (gZ l i (m:Int) (mv A [x0,x1,x2] m R).length ((mv A [x0,x1,x2] m R).flatten.map aA)) (.exit 2) (gZ l i (nB (ltK 2) [x0,x1,x2] A:Int) (ins (ltK 2) A [x0,x1,x2]++R).length ((ins (ltK 2) A [x0,x1,x2]++R).flatten.map aA)):=by
 have huA:∀ y∈A,y.length=3:=fun y hy=>hu y (oI _ hy)
 have huM:∀ m,uni 3 (mv A [x0,x1,x2] m R):=fun m y hy=>by
  unfold mv at hy
  rcases gV.1 hy with h | h
  ·exact huA y (List.mem_of_mem_take h)
  ·rcases fB.1 h with rfl | h
   ·rfl
   ·rcases gV.1 h with h | h
    ·exact huA y (List.mem_of_mem_drop h)
    ·exact hu y (aCt _ (kQ6 _ h))
 intro m
 induction m with
 | zero =>
  intro _ hlt;have e:=aFb (ltK 2) [x0,x1,x2] A 0 (Nat.zero_le _) hlt (.inl rfl);rw [← bEz,e];exact .exit (aQc (by simp)) (by simp)
 | succ m ih =>
  intro hm hlt;have hy:=kQ0 (show m<A.length by omega)
  generalize A[m]=y at hy
  obtain ⟨y0,y1,y2,rfl⟩:=len3 (huA y (kQ5 hy));have e1:((m+1:Nat):Int).toNat=m+1:=by omega
  have e2:(((m+1:Nat):Int)-1).toNat=m:=by omega
  have hl:=wT A [x0,x1,x2] (m+1) R hm;have g1:(mv A [x0,x1,x2] (m+1) R)[m+1]? = some [x0,x1,x2]:=by rw [aHs A _ _ R hm];simp
  have g2:(mv A [x0,x1,x2] (m+1) R)[m]? = some [y0,y1,y2]:=by rw [aHs A _ _ R hm,if_pos (by omega)];exact hy
  by_cases hc:yK x2 y2<0
  ·have st:=qJ (k:=3) (i:=m+1) (x:=[y0,y1,y2]) (huM (m+1)) (by omega) rfl
   have hs1:uni 3 ((mv A [x0,x1,x2] (m+1) R).set (m+1) [y0,y1,y2]):=aRn (huM _) rfl;have st2:=qJ (k:=3) (i:=m) (x:=[x0,x1,x2]) hs1 (by rw [sU];omega) rfl
   have gm:((mv A [x0,x1,x2] (m+1) R).set (m+1) [y0,y1,y2])[m]? = some [y0,y1,y2]:=by rw [List.getElem?_set,if_neg (by omega)];exact g2
   have hsw:=bLb A [x0,x1,x2] (m+1) R hm (by omega) [y0,y1,y2] (by simpa using hy)
   rw [Nat.add_sub_cancel] at hsw
   simp only [iN,List.map_nil] at st st2
   refine .step (aQa (j:=((m+1:Nat):Int)) (j':=(m:Int)) (M':=mv A [x0,x1,x2] m R) (by omega) (by rw [e1];exact g1) (by omega) (huM _) (by unfold inR;omega) (by rw [e2];exact g2) (by omega) hc ⟨rfl,by rw [e1];exact bG (huM _) g1⟩ ⟨by omega,by omega⟩ ⟨rfl,?_⟩ (by omega) (by rw [hl,wT A _ _ R (by omega)]) ?_) (ih (by omega) fun t ht h1 => ?_)
   ·rw [e1,e2,st];exact bG hs1 gm
   ·rw [e1,e2,st,st2,hsw]
   ·by_cases h2:t=m
    ·subst h2
     have h3:=hy;rw [kQ0 ht,Option.some.injEq] at h3
     rw [h3];simpa [ltK] using hc
    ·exact hlt t ht (by omega)
  ·have e:=aFb (ltK 2) [x0,x1,x2] A (m+1) hm hlt (.inr ⟨[y0,y1,y2],by simpa using hy,by simpa [ltK] using hc⟩)
   rw [← bEz,e];exact .exit (aQb (by omega) (by rw [e1];exact g1) (by omega) (huM _) (by unfold inR;omega) (by rw [e2];exact g2) (by omega) (by omega)) (by simp)
theorem bKx(l:Lqq)(hu:uni 3 l)(hn:l.length<1000):FMM Tp 216 [.own 0,.p (aA 0),.p (aA (l.length:Int)),.fn 152 [] []] [some (.row 48 l.length (l.flatten.map aA))] (.tup []) [some (.row 48 (isort (ltK 2) l).length ((isort (ltK 2) l).flatten.map aA))]:=by
 have hui:∀ i,uni 3 (isort (ltK 2) (l.take i)):=fun i y hy=>hu y (List.mem_of_mem_take ((aFc (ltK 2) _ y).1 hy))
 have key:∀ d i,i+d=l.length→1≤i→aM Tp 1 aLg (jO l i (isort (ltK 2) (l.take i)++l.drop i).length ((isort (ltK 2) (l.take i)++l.drop i).flatten.map aA)) (.exit 0) (jO l l.length (isort (ltK 2) l).length ((isort (ltK 2) l).flatten.map aA)):=by
  intro d
  induction d with
  | zero =>
   intro i hi _;obtain rfl:i=l.length:=by omega
   rw [List.take_length,List.drop_length,List.append_nil];exact .exit (aBw (by omega)) (by simp)
  | succ d ih =>
   intro i hi h1;have hlt:i<l.length:=by omega
   have hx:=hu l[i] (iA hlt);generalize hxx:l[i]=x at hx
   obtain ⟨x0,x1,x2,rfl⟩:=len3 hx;have hAl:(isort (ltK 2) (l.take i)).length=i:=by rw [vG,lC];omega
   have hdr:l.drop i=[x0,x1,x2]::l.drop (i+1):=by rw [bBy hlt,hxx]
   have hin:=bSs l i (isort (ltK 2) (l.take i)) (l.drop (i+1)) (by omega) hAl.symm x0 x1 x2 (by
    intro y hy
    rcases gV.1 hy with h | h
    ·exact hui i y h
    ·rcases fB.1 h with rfl | h
     ·rfl
     ·exact hu y (List.mem_of_mem_drop h)) i (by omega) (fun t ht h2=>by omega)
   have hmv:mv (isort (ltK 2) (l.take i)) [x0,x1,x2] i (l.drop (i+1))=isort (ltK 2) (l.take i)++l.drop i:=by
    have:=bSu (isort (ltK 2) (l.take i)) [x0,x1,x2] (l.drop (i+1));rw [hAl] at this;rw [this,hdr]
   have hsn:=aQg (ltK 2) l i hlt;rw [hxx] at hsn
   rw [hmv,← hsn] at hin
   exact .step (aPz (by omega) hin (by unfold inR;omega) rfl rfl rfl) (ih (i+1) (by omega) (by omega))
 rcases Nat.eq_zero_or_pos l.length with h0 | hp
 ·have:l=[]:=aCs h0
  subst this;exact aSq (aM.exit (aBw (l:=[]) (L:=[]) (i:=1) (by simp)) (by simp))
 ·have:=key (l.length-1) 1 (by omega) (by omega)
  have e1:isort (ltK 2) (l.take 1)++l.drop 1=l:=by
   cases l with
   | nil=>simp at hp
   | cons x r=>simp [isort,ins,nB]
  rw [e1] at this
  exact aSq this
def vE(l:Lqq)  : St:=⟨fr 63 [(0,(.own 0)),(1,(pI (l.length:Int))),(2,(.fn 152 [] [])),(6,(pI 20)),(7,(pI 0)),(8,(pI 20))],[some (.row 48 l.length (l.flatten.map aA))]⟩
def vF(l:Lqq)  : St:=⟨fr 63 [(0,(.own 0)),(1,(pI (l.length:Int))),(2,(.fn 152 [] [])),(6,(pI 20)),(7,(pI 0)),(8,(pI 20))],[some (.row 48 ((isort (ltK 2) l).length) ((isort (ltK 2) l).flatten.map aA))]⟩
theorem bKy{l:Lqq}(hl0:aM Tp 1 (sub (cd Tryz.f188) [1,1,0,0,0]) (vE l ) (.exit 0) (vE l ))(h1:uni 3 l)(h2:l.length<1000)(hl3:aM Tp 1 (sub (cd Tryz.f188) [1,1,1,1,0,0]) (vF l ) (.exit 2) (vF l )):FMM Tp 188 [(.own 0),(pI (l.length:Int)),(.fn 152 [] [])] [some (.row 48 l.length (l.flatten.map aA))] (.tup []) [some (.row 48 ((isort (ltK 2) l).length) ((isort (ltK 2) l).flatten.map aA))]:=by
 exact FMM.fin (k:=1) (g:=⟨[],[],[],[]⟩) rfl Tryz.func188 rfl (o:=[.k 6 ⟨(rng [(3,3),(10,13),(27,1),(43,1),(60,1)]),[],[],[]⟩ (.exit 0) (vE l ),.c (.tup []) [(0,(.row 48 ((isort (ltK 2) l).length) ((isort (ltK 2) l).flatten.map aA)))],.k 1 ⟨(rng [(3,3),(10,53)]),[],[],[]⟩ (.exit 2) (vF l )]) (l:=[_,FC Tp 216 [(.own 0),(pI 0),(pI (l.length:Int)),(.fn 152 [] [])] [(0,(.row 48 l.length (l.flatten.map aA)))] 1 (.tup []) [(0,(.row 48 ((isort (ltK 2) l).length) ((isort (ltK 2) l).flatten.map aA)))],_]) (by kernel_rfl) (gc hl3.code (gc (FMM.fc (ids:=[0]) (bKx l h1 h2) (by kernel_rfl)) (gc hl0.code gn)))
theorem aQd{l:Lqq}(h0:(l.length:Int)<20):aC Tp 1 (sub (cd Tryz.f188) [1,1,0,0,0]) (vE l ) (.exit 0) (vE l ):=by
 exact aC.fin (g:=⟨(rng [(3,3),(10,13),(27,1),(43,1),(60,1)]),[],[],[]⟩) (o:=[bF]) (l:=[_]) (by kernel_rfl) (gc (qK h0) gn)
theorem aQe{l:Lqq}(h0:(l.length:Int)≤20):aC Tp 1 (sub (cd Tryz.f188) [1,1,1,1,0,0]) (vF l ) (.exit 2) (vF l ):=by
 exact aC.fin (g:=⟨(rng [(3,3),(10,53)]),[],[],[]⟩) (o:=[bF]) (l:=[_]) (by kernel_rfl) (gc (bU h0) gn)
theorem bKz(l:Lqq)(hu:uni 3 l)(hn:l.length<20):FMM Tp 188 [.own 0,.p (aA (l.length:Int)),.fn 152 [] []] [some (.row 48 l.length (l.flatten.map aA))] (.tup []) [some (.row 48 (isort (ltK 2) l).length ((isort (ltK 2) l).flatten.map aA))] := 
 bKy (aM.exit (aQd (by omega)) (by simp)) hu (by omega) (aM.exit (aQe (by omega)) (by simp))
theorem bLa{l:Lqq}(h0:uni 3 l)(h1:l.length<20):FMM Tp 151 [(.own 0),(.fn 152 [] [])] [some (.row 48 l.length (l.flatten.map aA))] (.tup []) [some (.row 48 ((isort (ltK 2) l).length) ((isort (ltK 2) l).flatten.map aA))]:=by
 exact FMM.fin (k:=1) (g:=⟨[],[],[],[]⟩) rfl Tryz.func151 rfl (o:=[.c (.tup []) [(0,(.row 48 ((isort (ltK 2) l).length) ((isort (ltK 2) l).flatten.map aA)))]]) (l:=[FC Tp 188 [(.own 0),(pI (l.length:Int)),(.fn 152 [] [])] [(0,(.row 48 l.length (l.flatten.map aA)))] 1 (.tup []) [(0,(.row 48 ((isort (ltK 2) l).length) ((isort (ltK 2) l).flatten.map aA)))]]) (by kernel_rfl) (gc (FMM.fc (ids:=[0]) (bKz l h0 h1) (by kernel_rfl)) gn)
theorem bSt(l:Lqq)(hu:uni 3 l)(hn:l.length<20):FMM Tp 151 [.own 0,.fn 152 [] []] [some (.row 48 l.length (l.flatten.map aA))] (.tup []) [some (.row 48 (isort (ltK 2) l).length ((isort (ltK 2) l).flatten.map aA))]:=bLa hu hn
end
section
variable {dl:Int}{sk dc:Lqq}

noncomputable abbrev qW:Code:=sub (cd Tryz.f86) [1,1,1,1,0,1,0,0]
noncomputable abbrev wP:Code:=sub (cd Tryz.f86) [1,1,0,1,0,0]
noncomputable abbrev wQ:Code:=sub (cd Tryz.f129) [1,0,1,0,0]
noncomputable abbrev aHr:Code:=sub (cd Tryz.f21) [1,1,1,1,1,0,1,0,0]
theorem bEu:((0:Int) != (0:Int))=false:=by first | decide | simp
theorem aBu{cs:List PV}{a b:Nat}{v x:PV}(hn:a≠b)(h:cs[b]? = some x):(cs.set a v)[b]? = some x:=by rw [bGi hn];exact h
def ocB(q:List Int)(n:Int):Bool:=q.contains n
abbrev bRx(dl:Int)(sk dc:Lqq)(ov:PV)(R:Lqq)(T T2:Lqb):Prop:=FMM Tp 86 [pK dl sk dc,fT] (cW dl sk dc ov T) (.own 7) (cW dl sk dc ov T2++[some (.row 48 R.length (R.flatten.map aA))])
def iR(dl:Int)(sk:Lqq)(dc:Lqq)(ov:PV)(pn:Nat)(pc:List PV)(qn:Nat)(qc:List PV)(i:Nat)(te:List (Value × PV))(tk:Nat):St:=⟨fr 87 [(0,(.rp (aI dl sk dc) 0)),(3,(.ptr 7 0)),(4,(.p bX)),(5,(.own 8)),(6,(.own 9)),(16,(.p (fS sk))),(17,(pI (sk.length:Int))),(18,(pI (i:Int)))],[some (vB0 dl sk dc),some (.box 33 [(.p ov)]),some vB2,some (.mp te tk),some (.box 207 [(.mp 3)]),some (vB5 dl sk dc),some vB6,some vB2,some (.row 48 pn pc),some (.row 48 qn qc)]⟩
def eT(dl:Int)(sk:Lqq)(dc:Lqq)(ov:PV)(p'0:Lqq)(q'1:Lqq)(t'3:Lqb)(Ln:Nat)(Lc:List PV)(j:Nat):St:=⟨fr 87 [(4,(.p bX)),(5,(.own 7)),(6,(.own 8)),(47,(pI (((isort (ltK 2) p'0).length:Nat):Int))),(48,(pI (j:Int)))],[some (vB0 dl sk dc),some (.box 33 [(.p ov)]),some vB2,some (.mp (aF t'3) t'3.length),some (.box 207 [(.mp 3)]),some (vB5 dl sk dc),some vB6,some (.row 48 Ln Lc),some (.row 48 q'1.length (q'1.flatten.map aA))]⟩
theorem bRy{ov:PV}{T:Lqb}{p'0 q'1:Lqq}{i'2:Nat}{t'3:Lqb}{L'4:Lqq}{j'5 r0n:Nat}{r0c:List PV}(hl0:aM Tp 7 wP (iR dl sk dc ov 0 [] 0 [] 0 (aF T) T.length) (.exit 0) (iR dl sk dc ov p'0.length (p'0.flatten.map aA) q'1.length (q'1.flatten.map aA) i'2 (aF t'3) t'3.length))(h1:uni 3 p'0)(h2:p'0.length<20)(hl3:aM Tp 7 qW (eT dl sk dc ov p'0 q'1 t'3 ((isort (ltK 2) p'0).length) ((isort (ltK 2) p'0).flatten.map aA) 0) (.exit 2) (eT dl sk dc ov p'0 q'1 t'3 L'4.length (L'4.flatten.map aA) j'5))(h4:(q'1.flatten.map aA).length=q'1.length*3∧L'4.length+q'1.length≤1000000)(er0n:r0n=(L'4.length+q'1.length))(er0c:r0c=((L'4.flatten.map aA)++(q'1.flatten.map aA))):FMM Tp 86 [(.rp (aI dl sk dc) 0),fT] (cW dl sk dc ov T) (.own 7) [some (vB0 dl sk dc),some (.box 33 [(.p ov)]),some vB2,some (.mp (aF t'3) t'3.length),some (.box 207 [(.mp 3)]),some (vB5 dl sk dc),some vB6,some (.row 48 r0n r0c)]:=by
 subst er0n er0c;exact FMM.fin (k:=7) (g:=⟨[],[9],[],[]⟩) rfl Tryz.func86 rfl (o:=[.x (fS sk),.k 1 ⟨(rng [(1,2),(7,4),(12,4),(19,25),(45,1)]),[7,8,9],[],[(5,48),(6,48)]⟩ (.exit 0) (iR dl sk dc ov p'0.length (p'0.flatten.map aA) q'1.length (q'1.flatten.map aA) i'2 (aF t'3) t'3.length),.c (.tup []) [(8,(.row 48 ((isort (ltK 2) p'0).length) ((isort (ltK 2) p'0).flatten.map aA)))],.k 4 ⟨(rng [(0,4),(7,40),(49,35)]),[8,9],[],[]⟩ (.exit 2) (eT dl sk dc ov p'0 q'1 t'3 L'4.length (L'4.flatten.map aA) j'5)]) (l:=[_,_,FC Tp 151 [(.own 8),(.fn 152 [] [])] [(8,(.row 48 p'0.length (p'0.flatten.map aA)))] 10 (.tup []) [(8,(.row 48 ((isort (ltK 2) p'0).length) ((isort (ltK 2) p'0).flatten.map aA)))],_,(aI dl sk dc)[1]? = some (fS sk)]) (by kernel_rfl) (gc h4 (gc hl3.code (gc (FMM.fc (ids:=[8]) (bSt p'0 h1 h2) (by kernel_rfl)) (gc hl0.code (gc rfl gn)))))
theorem aZm{ov:PV}{p q:Lqq}{i:Nat}{t:Lqb}{y100 y101 n102:Int}{b103:Bool}{T104:Lqb}{q':Lqq}{i':Nat}{t':Lqb}(h0:(i:Int)<(sk.length:Int))(h1:sk[i]? = some [y100,y101])(h2:uni 2 sk)(h3:aCw dl sk dc ov [y100,y101] n102 b103 t T104)(h4:b103=true)(h5:[(aA y100),(aA (-1:Int)),(aA 0)].length=1*3∧q.length+1≤1000000)(h6:inR (((i+1):Nat):Int))(eq'n:q'.length=(q.length+1))(eq'c:q'.flatten.map aA=((q.flatten.map aA)++[(aA y100),(aA (-1:Int)),(aA 0)]))(ei':i'=(i+1))(et'e:aF t'=(aF T104))(et'k:t'.length=T104.length):aC Tp 7 wP (iR dl sk dc ov p.length (p.flatten.map aA) q.length (q.flatten.map aA) i (aF t) t.length) .normal (iR dl sk dc ov p.length (p.flatten.map aA) q'.length (q'.flatten.map aA) i' (aF t') t'.length):=by
 subst ei';have raw:aC Tp 7 wP (iR dl sk dc ov p.length (p.flatten.map aA) q.length (q.flatten.map aA) i (aF t) t.length) .normal (iR dl sk dc ov p.length (p.flatten.map aA) (q.length+1) ((q.flatten.map aA)++[(aA y100),(aA (-1:Int)),(aA 0)]) (i+1) (aF T104) T104.length):=aC.fin (g:=⟨(rng [(1,2),(7,4),(12,4),(19,25),(45,1)]),[7,8,12],[],[]⟩) (o:=[bT,.x (.agg [(aA y100),(aA y101)]),.c (.tup [(pI n102),(pB b103)]) (vU dl sk dc ov T104),bT]) (l:=[_,_,[(aA y100),(aA (-1:Int)),(aA 0)].length=3,_,FC Tp 134 [(.rp (aI dl sk dc) 0),(.p (.agg [(aA y100),(aA y101)])),fT] [(4,(.box 207 [(.mp 3)])),(5,(vB5 dl sk dc)),(0,(vB0 dl sk dc)),(2,vB2),(6,vB6),(1,(.box 33 [(.p ov)])),(3,(.mp (aF t) t.length))] 11 (.tup [(pI n102),(pB b103)]) (vU dl sk dc ov T104),_,_,0≤(i:Int)∧(i:Int)<(sk.length:Int)∧(i*2)<(sk.flatten.map aA).length,_]) (by kernel_rfl) (gc h6 (gc h5 (gc (by first | decide | simp) (gc h4 (gc (FMM.fc (ids:=[0,1,2,3,4,5,6]) h3 (by kernel_rfl)) (gc (aV (i:=i) h2 h1) (gc (bG (i:=i) h2 h1) (gc (bZ (k:=2) (i:=(i:Int)) (by decide) h2 (kQ3 _) h1) (gc (bD h0) gn)))))))))
 exact raw.cast (by rw [eq'n,eq'c,et'e,et'k])
theorem aZn{ov:PV}{p q:Lqq}{i:Nat}{t:Lqb}{y100 y101 n102:Int}{b103:Bool}{T104:Lqb}{p':Lqq}{i':Nat}{t':Lqb}(h0:(i:Int)<(sk.length:Int))(h1:sk[i]? = some [y100,y101])(h2:uni 2 sk)(h3:aCw dl sk dc ov [y100,y101] n102 b103 t T104)(h4:b103=false)(h5:[(aA y100),(aA 0),(aA n102)].length=1*3∧p.length+1≤1000000)(h6:inR (((i+1):Nat):Int))(ep'n:p'.length=(p.length+1))(ep'c:p'.flatten.map aA=((p.flatten.map aA)++[(aA y100),(aA 0),(aA n102)]))(ei':i'=(i+1))(et'e:aF t'=(aF T104))(et'k:t'.length=T104.length):aC Tp 7 wP (iR dl sk dc ov p.length (p.flatten.map aA) q.length (q.flatten.map aA) i (aF t) t.length) .normal (iR dl sk dc ov p'.length (p'.flatten.map aA) q.length (q.flatten.map aA) i' (aF t') t'.length):=by
 subst ei';have raw:aC Tp 7 wP (iR dl sk dc ov p.length (p.flatten.map aA) q.length (q.flatten.map aA) i (aF t) t.length) .normal (iR dl sk dc ov (p.length+1) ((p.flatten.map aA)++[(aA y100),(aA 0),(aA n102)]) q.length (q.flatten.map aA) (i+1) (aF T104) T104.length):=aC.fin (g:=⟨(rng [(1,2),(7,4),(12,4),(19,25),(45,1)]),[7,12,9],[],[]⟩) (o:=[bT,.x (.agg [(aA y100),(aA y101)]),.c (.tup [(pI n102),(pB b103)]) (vU dl sk dc ov T104),bF]) (l:=[_,_,[(aA y100),(aA 0),(aA n102)].length=3,_,FC Tp 134 [(.rp (aI dl sk dc) 0),(.p (.agg [(aA y100),(aA y101)])),fT] [(4,(.box 207 [(.mp 3)])),(5,(vB5 dl sk dc)),(0,(vB0 dl sk dc)),(2,vB2),(6,vB6),(1,(.box 33 [(.p ov)])),(3,(.mp (aF t) t.length))] 11 (.tup [(pI n102),(pB b103)]) (vU dl sk dc ov T104),_,_,0≤(i:Int)∧(i:Int)<(sk.length:Int)∧(i*2)<(sk.flatten.map aA).length,_]) (by kernel_rfl) (gc h6 (gc h5 (gc (by first | decide | simp) (gc h4 (gc (FMM.fc (ids:=[0,1,2,3,4,5,6]) h3 (by kernel_rfl)) (gc (aV (i:=i) h2 h1) (gc (bG (i:=i) h2 h1) (gc (bZ (k:=2) (i:=(i:Int)) (by decide) h2 (kQ3 _) h1) (gc (bD h0) gn)))))))))
 exact raw.cast (by rw [ep'n,ep'c,et'e,et'k])
theorem aZo{ov:PV}{p q:Lqq}{i:Nat}{t:Lqb}(h0:(sk.length:Int)≤(i:Int)):aC Tp 7 wP (iR dl sk dc ov p.length (p.flatten.map aA) q.length (q.flatten.map aA) i (aF t) t.length) (.exit 0) (iR dl sk dc ov p.length (p.flatten.map aA) q.length (q.flatten.map aA) i (aF t) t.length):=by
 exact aC.fin (g:=⟨(rng [(1,2),(7,4),(12,4),(19,25),(45,1)]),[7,8,9],[],[]⟩) (o:=[bF]) (l:=[_]) (by kernel_rfl) (gc (bU h0) gn)
theorem aZp{ov:PV}{p'0 q'1:Lqq}{t'3:Lqb}{L:Lqq}{j:Nat}{y200 y201 y202 y203 y204 y205:Int}{L':Lqq}{j':Nat}(h0:(j:Int)<(((isort (ltK 2) p'0).length:Nat):Int))(h1:inR (((j+1):Nat):Int))(h2:L[j]? = some [y200,y201,y202])(h3:((j*3)+1)<(L.flatten.map aA).length)(h4:(0:Int)<(j:Int))(h5:uni 3 L)(h6:inR ((j:Int)-1))(h7:L[((j:Int)-1).toNat]? = some [y203,y204,y205])(h8:0≤((j:Int)-1))(h9:y202=y205)(h10:((j*3)+1)<((L.flatten.map aA).set ((j*3)+1) (aA (((j+1):Nat):Int))).length)(eL'n:L'.length=L.length)(eL'c:L'.flatten.map aA=(((L.flatten.map aA).set ((j*3)+1) (aA (((j+1):Nat):Int))).set ((j*3)+1) (aA y204)))(ej':j'=(j+1)):aC Tp 7 qW (eT dl sk dc ov p'0 q'1 t'3 L.length (L.flatten.map aA) j) .normal (eT dl sk dc ov p'0 q'1 t'3 L'.length (L'.flatten.map aA) j'):=by
 subst ej';have raw:aC Tp 7 qW (eT dl sk dc ov p'0 q'1 t'3 L.length (L.flatten.map aA) j) .normal (eT dl sk dc ov p'0 q'1 t'3 L.length (((L.flatten.map aA).set ((j*3)+1) (aA (((j+1):Nat):Int))).set ((j*3)+1) (aA y204)) (j+1)):=aC.fin (g:=⟨(rng [(0,4),(7,40),(49,35)]),[7,8],[],[]⟩) (o:=[bT,bT,bT,bT,bT,bT,.x (aA y202),bT,bT,bT,bT,bT,bT,.x (aA y205),bT,bT,bT,.x (aA y204)]) (l:=[_,_,_,((L.flatten.map aA).set ((j*3)+1) (aA (((j+1):Nat):Int)))[((((j:Int)-1).toNat*3)+1)]? = some (aA y204),_,_,_,_,_,((L.flatten.map aA).set ((j*3)+1) (aA (((j+1):Nat):Int)))[((((j:Int)-1).toNat*3)+2)]? = some (aA y205),_,_,_,_,_,_,_,_,((L.flatten.map aA).set ((j*3)+1) (aA (((j+1):Nat):Int)))[((j*3)+2)]? = some (aA y202),_,_,_,_,_,_,_,_,_,_]) (by kernel_rfl) (gc h1 (gc h10 (gc (cU (i:=(j:Int)) (kQ3 _) h2) (gc (aBu (by omega) (jJ (i:=((j:Int)-1).toNat) (f:=1) h5 h7 rfl)) (gc (cU (i:=((j:Int)-1)) h8 h7) (gc h6 (gc (eR h9) (g2c (bD h4) (gc (aBu (by omega) (jJ (i:=((j:Int)-1).toNat) (f:=2) h5 h7 rfl)) (g2c (bD h4) (gc (cU (i:=((j:Int)-1)) h8 h7) (gc (bD h4) (gc h6 (g3c (bD h4) (gc (aBu (by omega) (jJ (i:=j) (f:=2) h5 h2 rfl)) (g2c (bD h4) (gc (cU (i:=(j:Int)) (kQ3 _) h2) (g3c (bD h4) (gc h3 (gc (cU (i:=(j:Int)) (kQ3 _) h2) (gc h1 (gc (bD h0) gn))))))))))))))))))))))
 exact raw.cast (by rw [eL'n,eL'c])
theorem aZq{ov:PV}{p'0 q'1:Lqq}{t'3:Lqb}{L:Lqq}{j:Nat}{y200 y201 y202 y203 y204 y205:Int}{L':Lqq}{j':Nat}(h0:(j:Int)<(((isort (ltK 2) p'0).length:Nat):Int))(h1:inR (((j+1):Nat):Int))(h2:L[j]? = some [y200,y201,y202])(h3:((j*3)+1)<(L.flatten.map aA).length)(h4:(0:Int)<(j:Int))(h5:uni 3 L)(h6:inR ((j:Int)-1))(h7:L[((j:Int)-1).toNat]? = some [y203,y204,y205])(h8:0≤((j:Int)-1))(h9:y202≠y205)(eL'n:L'.length=L.length)(eL'c:L'.flatten.map aA=((L.flatten.map aA).set ((j*3)+1) (aA (((j+1):Nat):Int))))(ej':j'=(j+1)):aC Tp 7 qW (eT dl sk dc ov p'0 q'1 t'3 L.length (L.flatten.map aA) j) .normal (eT dl sk dc ov p'0 q'1 t'3 L'.length (L'.flatten.map aA) j'):=by
 subst ej';have raw:aC Tp 7 qW (eT dl sk dc ov p'0 q'1 t'3 L.length (L.flatten.map aA) j) .normal (eT dl sk dc ov p'0 q'1 t'3 L.length ((L.flatten.map aA).set ((j*3)+1) (aA (((j+1):Nat):Int))) (j+1)):=aC.fin (g:=⟨(rng [(0,4),(7,40),(49,35)]),[7,8],[],[]⟩) (o:=[bT,bT,bT,bT,bT,bT,.x (aA y202),bT,bT,bT,bT,bT,bT,.x (aA y205),bT,bT,bF]) (l:=[_,_,_,_,((L.flatten.map aA).set ((j*3)+1) (aA (((j+1):Nat):Int)))[((((j:Int)-1).toNat*3)+2)]? = some (aA y205),_,_,_,_,_,_,_,_,((L.flatten.map aA).set ((j*3)+1) (aA (((j+1):Nat):Int)))[((j*3)+2)]? = some (aA y202),_,_,_,_,_,_,_,_,_,_]) (by kernel_rfl) (gc h1 (gc (bR h9) (g2c (bD h4) (gc (aBu (by omega) (jJ (i:=((j:Int)-1).toNat) (f:=2) h5 h7 rfl)) (g2c (bD h4) (gc (cU (i:=((j:Int)-1)) h8 h7) (gc (bD h4) (gc h6 (g3c (bD h4) (gc (aBu (by omega) (jJ (i:=j) (f:=2) h5 h2 rfl)) (g2c (bD h4) (gc (cU (i:=(j:Int)) (kQ3 _) h2) (g3c (bD h4) (gc h3 (gc (cU (i:=(j:Int)) (kQ3 _) h2) (gc h1 (gc (bD h0) gn)))))))))))))))))
 exact raw.cast (by rw [eL'n,eL'c])
theorem aZr{ov:PV}{p'0 q'1:Lqq}{t'3:Lqb}{L:Lqq}{j:Nat}{y200 y201 y202:Int}{L':Lqq}{j':Nat}(h0:(j:Int)<(((isort (ltK 2) p'0).length:Nat):Int))(h1:inR (((j+1):Nat):Int))(h2:L[j]? = some [y200,y201,y202])(h3:((j*3)+1)<(L.flatten.map aA).length)(h4:(j:Int)≤0)(eL'n:L'.length=L.length)(eL'c:L'.flatten.map aA=((L.flatten.map aA).set ((j*3)+1) (aA (((j+1):Nat):Int))))(ej':j'=(j+1)):aC Tp 7 qW (eT dl sk dc ov p'0 q'1 t'3 L.length (L.flatten.map aA) j) .normal (eT dl sk dc ov p'0 q'1 t'3 L'.length (L'.flatten.map aA) j'):=by
 subst ej';have raw:aC Tp 7 qW (eT dl sk dc ov p'0 q'1 t'3 L.length (L.flatten.map aA) j) .normal (eT dl sk dc ov p'0 q'1 t'3 L.length ((L.flatten.map aA).set ((j*3)+1) (aA (((j+1):Nat):Int))) (j+1)):=aC.fin (g:=⟨(rng [(0,4),(7,40),(49,35)]),[7,8],[],[]⟩) (o:=[bT,bF,bF,bF,bF,bF,bF,bF,bF,bF,bF,bF,bF,bF]) (l:=[_,_,_,_,_,_,_,_,_,_,_,_,_,_,_,_,_,_]) (by kernel_rfl) (gc h1 (g8c (bU h4) (g5c (bU h4) (gc h3 (gc (cU (i:=(j:Int)) (kQ3 _) h2) (gc h1 (gc (bD h0) gn)))))))
 exact raw.cast (by rw [eL'n,eL'c])
theorem aZs{ov:PV}{p'0 q'1:Lqq}{t'3:Lqb}{L:Lqq}{j:Nat}(h0:(((isort (ltK 2) p'0).length:Nat):Int)≤(j:Int)):aC Tp 7 qW (eT dl sk dc ov p'0 q'1 t'3 L.length (L.flatten.map aA) j) (.exit 2) (eT dl sk dc ov p'0 q'1 t'3 L.length (L.flatten.map aA) j):=by
 exact aC.fin (g:=⟨(rng [(0,4),(7,40),(49,35)]),[7,8],[],[]⟩) (o:=[bF]) (l:=[_]) (by kernel_rfl) (gc (bU h0) gn)
theorem bRz{dl:Int}{sk dc R0:Lqq}{T1:Lqb}(h0:bO dl sk dc)(h1:bRx dl (aB sk) (aB dc) bX R0 ([]:Lqb) T1){base:Nat}:FV Tp 28 [(.p (.agg (bP dl sk dc)))] base (.tup [(.own base),(pI 0)]) [(base,(.row 48 R0.length (R0.flatten.map aA)))]:=by
 exact FV.fin Tryz.func28 rfl (o:=[.c (.tup [(.rp (aI dl (aB sk) (aB dc)) 0),(pI 0)]) [],bF,.c (.agg (kVL 5 6 1 3 7 2)) [(1,(vB0 dl (aB sk) (aB dc))),(2,(.box 33 [(.p bX)])),(3,(.box 139 (kVL 5 6 1 3 7 2))),(4,(.mp (aF ([]:Lqb)) 0)),(5,(.box 207 [(.mp 4)])),(6,(vB5 dl (aB sk) (aB dc))),(7,(.box 209 [(.fn 153 [] [(.ptr 1 0),(.ptr 3 0)])]))],.c (.own 8) [(1,(vB0 dl (aB sk) (aB dc))),(2,(.box 33 [(.p bX)])),(3,(.box 139 (kVL 5 6 1 3 7 2))),(4,(.mp (aF T1) T1.length)),(5,(.box 207 [(.mp 4)])),(6,(vB5 dl (aB sk) (aB dc))),(7,(.box 209 [(.fn 153 [] [(.ptr 1 0),(.ptr 3 0)])])),(8,(.row 48 R0.length (R0.flatten.map aA)))]]) (l:=[FC Tp 86 [(.rp (aI dl (aB sk) (aB dc)) 0),(.agg (kVL 5 6 1 3 7 2))] [(5,(.box 207 [(.mp 4)])),(6,(vB5 dl (aB sk) (aB dc))),(1,(vB0 dl (aB sk) (aB dc))),(3,(.box 139 (kVL 5 6 1 3 7 2))),(7,(.box 209 [(.fn 153 [] [(.ptr 1 0),(.ptr 3 0)])])),(2,(.box 33 [(.p bX)])),(4,(.mp (aF ([]:Lqb)) 0))] 8 (.own 8) [(1,(vB0 dl (aB sk) (aB dc))),(2,(.box 33 [(.p bX)])),(3,(.box 139 (kVL 5 6 1 3 7 2))),(4,(.mp (aF T1) T1.length)),(5,(.box 207 [(.mp 4)])),(6,(vB5 dl (aB sk) (aB dc))),(7,(.box 209 [(.fn 153 [] [(.ptr 1 0),(.ptr 3 0)])])),(8,(.row 48 R0.length (R0.flatten.map aA)))],FC Tp 87 [(.rp (aI dl (aB sk) (aB dc)) 0),(.p bX)] [] 1 (.agg (kVL 5 6 1 3 7 2)) [(1,(vB0 dl (aB sk) (aB dc))),(2,(.box 33 [(.p bX)])),(3,(.box 139 (kVL 5 6 1 3 7 2))),(4,(.mp (aF ([]:Lqb)) 0)),(5,(.box 207 [(.mp 4)])),(6,(vB5 dl (aB sk) (aB dc))),(7,(.box 209 [(.fn 153 [] [(.ptr 1 0),(.ptr 3 0)])]))],_,_]) (by kernel_rfl) (gc (FMM.fc (ids:=[1,2,3,4,5,6,7]) h1 (by kernel_rfl)) (gc (FMM.fcN (k:=7) rfl (ids:=[]) (yT (dl:=dl) (sk:=(aB sk)) (dc:=(aB dc))) (by kernel_rfl)) (gc bEu (gc (fk 1 (jN dl sk dc h0) rfl) gn))))
theorem bSa{n:Int}{q:List Int}{r0:Bool}(h0:q.length≤1000)(er0:r0=(q.contains n)){base:Nat}:FV Tp 85 [(pI n),(.rp [(aH q)] 0)] base (pB r0) []:=by
 subst er0;exact FV.fin Tryz.func85 rfl (o:=[.x (aH q),.c (pB (q.contains n)) []]) (l:=[_,[(aH q)][0]? = some (aH q)]) (by kernel_rfl) (gc (fk 0 (mU q n h0) rfl) (gc rfl gn))
theorem bSb(n:Int)(q:List Int)(hq:q.length≤1000){base:Nat}:FV Tp 85 [.p (aA n),.rp [aH q] 0] base (pB (ocB q n)) []:=bSa hq rfl
theorem bKr{x:Int}{q:List Int}{r0:Bool}(h0:q.length≤1000)(er0:r0=(!(ocB q x))):FMM Tp 150 [(pI x),(.ptr 0 0)] [some (.box 96 [(.fn 85 [] [(.rp [(aH q)] 0)])])] (pB r0) [some (.box 96 [(.fn 85 [] [(.rp [(aH q)] 0)])])]:=by
 subst er0;exact FMM.fin (k:=1) (g:=⟨[],[],[],[]⟩) rfl Tryz.func150 rfl (o:=[.c (pB (ocB q x)) []]) (l:=[_]) (by kernel_rfl) (gc (fk 1 (bSb x q h0) rfl) gn)
theorem aSl(x:Int)(q:List Int)(he:q.length≤1000):FMM Tp 150 [(pI x),.ptr 0 0] [some (.box 96 [(.fn 85 [] [(.rp [(aH q)] 0)])])] (pB (!(ocB q x))) [some (.box 96 [(.fn 85 [] [(.rp [(aH q)] 0)])])]:=bKr he rfl
def fR(l:List Int)(q:List Int)(i:Nat):St:=⟨fr 19 [(0,(.p (aH l))),(1,(.fn 150 [] [(.ptr 0 0)])),(7,(pI (l.length:Int))),(8,(pI (i:Int)))],[some (.box 96 [(.fn 85 [] [(.rp [(aH q)] 0)])])]⟩
theorem bKs{l q:List Int}{i'0:Nat}(hl0:aM Tp 1 wQ (fR l q 0) (.exit 0) (fR l q i'0)):FMM Tp 129 [(.p (aH l)),(.fn 150 [] [(.ptr 0 0)])] [some (.box 96 [(.fn 85 [] [(.rp [(aH q)] 0)])])] (pI (-1:Int)) [some (.box 96 [(.fn 85 [] [(.rp [(aH q)] 0)])])]:=by
 exact FMM.fin (k:=1) (g:=⟨[],[],[],[]⟩) rfl Tryz.func129 rfl (o:=[.k 6 ⟨(rng [(2,5),(9,10)]),[],[],[]⟩ (.exit 0) (fR l q i'0)]) (l:=[_]) (by kernel_rfl) (gc hl0.code gn)
theorem bKt{l q:List Int}{i'0:Nat}(hl0:aM Tp 1 wQ (fR l q 0) .ret (cH (fR l q i'0) [(4,(pI (i'0:Int)))])):FMM Tp 129 [(.p (aH l)),(.fn 150 [] [(.ptr 0 0)])] [some (.box 96 [(.fn 85 [] [(.rp [(aH q)] 0)])])] (pI (i'0:Int)) [some (.box 96 [(.fn 85 [] [(.rp [(aH q)] 0)])])]:=by
 exact FMM.fin (k:=1) (g:=⟨[],[],[],[]⟩) rfl Tryz.func129 rfl (o:=[.k 6 ⟨(rng [(2,5),(9,10)]),[],[],[]⟩ .ret (cH (fR l q i'0) [(4,(pI (i'0:Int)))])]) (l:=[_]) (by kernel_rfl) (gc hl0.code gn)
theorem aPu{l q:List Int}{i:Nat}{x100:Int}(h0:(i:Int)<(l.length:Int))(h1:l[i]? = some x100)(h2:q.length≤1000)(h3:(ocB q x100)=false):aC Tp 1 wQ (fR l q i) .ret (cH (fR l q i) [(4,(pI (i:Int)))]):=by
 exact aC.fin (g:=⟨(rng [(2,2),(5,2),(9,10)]),[],[],[]⟩) (o:=[bT,.x (aA x100),.c (pB (!(ocB q x100))) [(0,(.box 96 [(.fn 85 [] [(.rp [(aH q)] 0)])]))],bT]) (l:=[_,FC Tp 150 [(pI x100),(.ptr 0 0)] [(0,(.box 96 [(.fn 85 [] [(.rp [(aH q)] 0)])]))] 1 (pB (!(ocB q x100))) [(0,(.box 96 [(.fn 85 [] [(.rp [(aH q)] 0)])]))],_,_,_]) (by kernel_rfl) (gc (cQ h3) (gc (FMM.fc (ids:=[0]) (aSl x100 q h2) (by kernel_rfl)) (gc (atm aA h1) (gc (ixn aA h1) (gc (bD h0) gn)))))
theorem aPv{l q:List Int}{i:Nat}{x100:Int}{i':Nat}(h0:(i:Int)<(l.length:Int))(h1:l[i]? = some x100)(h2:q.length≤1000)(h3:(ocB q x100)=true)(h4:inR (((i+1):Nat):Int))(ei':i'=(i+1)):aC Tp 1 wQ (fR l q i) .normal (fR l q i'):=by
 subst ei';exact aC.fin (g:=⟨(rng [(2,5),(9,10)]),[],[],[]⟩) (o:=[bT,.x (aA x100),.c (pB (!(ocB q x100))) [(0,(.box 96 [(.fn 85 [] [(.rp [(aH q)] 0)])]))],bF]) (l:=[_,_,FC Tp 150 [(pI x100),(.ptr 0 0)] [(0,(.box 96 [(.fn 85 [] [(.rp [(aH q)] 0)])]))] 1 (pB (!(ocB q x100))) [(0,(.box 96 [(.fn 85 [] [(.rp [(aH q)] 0)])]))],_,_,_]) (by kernel_rfl) (gc h4 (gc (aX h3) (gc (FMM.fc (ids:=[0]) (aSl x100 q h2) (by kernel_rfl)) (gc (atm aA h1) (gc (ixn aA h1) (gc (bD h0) gn))))))
theorem aPw{l q:List Int}{i:Nat}(h0:(l.length:Int)≤(i:Int)):aC Tp 1 wQ (fR l q i) (.exit 0) (fR l q i):=by
 exact aC.fin (g:=⟨(rng [(2,5),(9,10)]),[],[],[]⟩) (o:=[bF]) (l:=[_]) (by kernel_rfl) (gc (bU h0) gn)
theorem bKu(l:List Int)(q:List Int)(hl:l.length≤1000)(he:∀ x∈l,q.length≤1000):FMM Tp 129 [.p (aH l),(.fn 150 [] [(.ptr 0 0)])] [some (.box 96 [(.fn 85 [] [(.rp [(aH q)] 0)])])] (pI (bC (fun x => !(ocB q x)) l)) [some (.box 96 [(.fn 85 [] [(.rp [(aH q)] 0)])])]:=by
 rcases aM.find (P:=Tp) (k:=1) (b:=wQ) (fun i=>fR l q i) (fun i _=>cH (fR l q i) [(4,.p (aA (i:Int)))]) (fR l q l.length) .ret (.exit 0) (by simp) (by simp) (fun x => !(ocB q x)) l
  (fun i x hx hp=>by exact aPv (by have:=bE hx;omega) hx (he _ (kQ5 hx)) (by simpa using hp) (aP (by have:=bE hx;omega)) rfl)
  (fun i x hx hp=>by exact aPu (by have:=bE hx;omega) hx (he _ (kQ5 hx)) (by simpa using hp))
  (aPw (l:=l) (i:=l.length) (by omega)) with ⟨i,x,h1,h2,h3,h4⟩ | ⟨h1,h2,h3⟩
 ·rw [jX h2];exact bKt h4
 ·rw [jY h1];exact bKs h3
theorem bKv{l q:List Int}{r0:Bool}(h0:l.length≤1000)(h1:∀ x∈l,q.length≤1000)(er0:r0=(decide ((bC (fun x => !(ocB q x)) l) ≥ (0:Int)))):FMM Tp 149 [(.p (aH l)),(.fn 150 [] [(.ptr 0 0)])] [some (.box 96 [(.fn 85 [] [(.rp [(aH q)] 0)])])] (pB r0) [some (.box 96 [(.fn 85 [] [(.rp [(aH q)] 0)])])]:=by
 subst er0;exact FMM.fin (k:=1) (g:=⟨[],[],[],[]⟩) rfl Tryz.func149 rfl (o:=[.c (pI (bC (fun x => !(ocB q x)) l)) [(0,(.box 96 [(.fn 85 [] [(.rp [(aH q)] 0)])]))]]) (l:=[FC Tp 129 [(.p (aH l)),(.fn 150 [] [(.ptr 0 0)])] [(0,(.box 96 [(.fn 85 [] [(.rp [(aH q)] 0)])]))] 1 (pI (bC (fun x => !(ocB q x)) l)) [(0,(.box 96 [(.fn 85 [] [(.rp [(aH q)] 0)])]))]]) (by kernel_rfl) (gc (FMM.fc (ids:=[0]) (bKu l q h0 h1) (by kernel_rfl)) gn)
theorem bKw(l:List Int)(q:List Int)(hl:l.length≤1000)(he:∀ x∈l,q.length≤1000):FMM Tp 149 [.p (aH l),(.fn 150 [] [(.ptr 0 0)])] [some (.box 96 [(.fn 85 [] [(.rp [(aH q)] 0)])])] (pB (l.any (fun x => !(ocB q x)))) [some (.box 96 [(.fn 85 [] [(.rp [(aH q)] 0)])])]:=bKv hl he (nO _ _).symm
theorem bSc{l q:List Int}{r0:Bool}(h0:l.length≤1000)(h1:∀ x∈l,q.length≤1000)(er0:r0=(!(l.any (fun x => !(ocB q x))))){base:Nat}:FV Tp 84 [(.p (aH l)),(.fn 85 [] [(.rp [(aH q)] 0)])] base (pB r0) []:=by
 subst er0;exact FV.fin Tryz.func84 rfl (o:=[.c (pB (l.any (fun x => !(ocB q x)))) [(0,(.box 96 [(.fn 85 [] [(.rp [(aH q)] 0)])]))]]) (l:=[FC Tp 149 [(.p (aH l)),(.fn 150 [] [(.ptr 0 0)])] [(0,(.box 96 [(.fn 85 [] [(.rp [(aH q)] 0)])]))] 1 (pB (l.any (fun x => !(ocB q x)))) [(0,(.box 96 [(.fn 85 [] [(.rp [(aH q)] 0)])]))]]) (by kernel_rfl) (gc (FMM.fc (ids:=[0]) (bKw l q h0 h1) (by kernel_rfl)) gn)
theorem bSd(l:List Int)(q:List Int)(hl:l.length≤1000)(he:∀ x∈l,q.length≤1000){base:Nat}:FV Tp 84 [.p (aH l),(.fn 85 [] [(.rp [(aH q)] 0)])] base (pB (l.all (ocB q))) []:=bSc hl he (by rw [List.all_eq_not_any_not])
def gP(dl:Int)(sk:Lqq)(dc:Lqq)(u:List Int)(i:Int):St:=⟨fr 45 [(1,(.p (aH u))),(6,(.rp (aI dl (aB sk) (aB dc)) 0)),(9,(pI i))],[]⟩
theorem bSe{u:List Int}{i'0:Int}{R1:Lqq}{T2:Lqb}(h0:bO dl sk dc)(h1:cE (aB dc))(h2:u.length≤1000)(h3:∀ x∈u,(aS dl (aB dc)).length≤1000)(h4:(u.all (ocB (aS dl (aB dc))))=true)(hl5:aM Tp 0 aHr (gP dl sk dc u (1:Int)) (.exit 0) (gP dl sk dc u i'0))(h6:bRx dl (aB sk) (aB dc) (aH u) R1 ([]:Lqb) T2){base:Nat}:FV Tp 21 [(.p (.agg (bP dl sk dc))),(.p (aH u))] base (.tup [(.own base),(pI 0)]) [(base,(.row 48 R1.length (R1.flatten.map aA)))]:=by
 exact FV.fin Tryz.func21 rfl (o:=[.c (.tup [(.rp (aI dl (aB sk) (aB dc)) 0),(pI 0)]) [],bF,.c (.own 1) [(1,(.row 3 ((aS dl (aB dc)).length) ((aS dl (aB dc)).map aA)))],.g 2 ⟨[],[0],[1,2],[]⟩,.c (pB (u.all (ocB (aS dl (aB dc))))) [],bF,.k 4 ⟨(rng [(0,1),(2,4),(7,2),(10,30)]),[],[],[]⟩ (.exit 0) (gP dl sk dc u i'0),.c fT (vU dl (aB sk) (aB dc) (aH u) ([]:Lqb)),.c (.own 7) [(0,(vB0 dl (aB sk) (aB dc))),(1,(.box 33 [(.p (aH u))])),(2,vB2),(3,(.mp (aF T2) T2.length)),(4,(.box 207 [(.mp 3)])),(5,(vB5 dl (aB sk) (aB dc))),(6,vB6),(7,(.row 48 R1.length (R1.flatten.map aA)))]]) (l:=[FC Tp 86 [(.rp (aI dl (aB sk) (aB dc)) 0),fT] [(4,(.box 207 [(.mp 3)])),(5,(vB5 dl (aB sk) (aB dc))),(0,(vB0 dl (aB sk) (aB dc))),(2,vB2),(6,vB6),(1,(.box 33 [(.p (aH u))])),(3,(.mp (aF ([]:Lqb)) 0))] 7 (.own 7) [(0,(vB0 dl (aB sk) (aB dc))),(1,(.box 33 [(.p (aH u))])),(2,vB2),(3,(.mp (aF T2) T2.length)),(4,(.box 207 [(.mp 3)])),(5,(vB5 dl (aB sk) (aB dc))),(6,vB6),(7,(.row 48 R1.length (R1.flatten.map aA)))],FC Tp 87 [(.rp (aI dl (aB sk) (aB dc)) 0),(.p (aH u))] [] 0 fT (vU dl (aB sk) (aB dc) (aH u) ([]:Lqb)),_,_,_,_,_,_]) (by kernel_rfl) (gc (FMM.fc (ids:=[0,1,2,3,4,5,6]) h6 (by kernel_rfl)) (gc (FMM.fcN (k:=7) rfl (ids:=[]) (oW (dl:=dl) (sk:=(aB sk)) (dc:=(aB dc)) (on:=u.length) (ol:=(u.map aA))) (by kernel_rfl)) (gc hl5.code (gc (aX h4) (gc (fk 1 (bSd u (aS dl (aB dc)) h2 h3) rfl) (gc (fk 1 (qL (dl:=dl) (sk:=(aB sk)) (dc:=(aB dc)) h1) rfl) (gc bEu (gc (fk 1 (jN dl sk dc h0) rfl) gn))))))))
theorem aZt{u:List Int}{i x100 x101:Int}(h0:i<(u.length:Int))(h1:u[i.toNat]? = some x100)(h2:0≤i)(h3:inR (i-1))(h4:u[(i-1).toNat]? = some x101)(h5:0≤(i-1))(h6:x100≤x101):aC Tp 0 aHr (gP dl sk dc u i) .ret (cH (gP dl sk dc u i) [(4,(.p bX)),(5,(pI 4))]):=by
 exact aC.fin (g:=⟨(rng [(0,1),(2,2),(7,2),(10,30)]),[],[],[]⟩) (o:=[bT,.x (aA x100),.x (aA x101),bT]) (l:=[_,(u.map aA)[((i-1).toNat*1)]? = some (aA x101),_,_,(u.map aA)[(i.toNat*1)]? = some (aA x100),_,_]) (by kernel_rfl) (gc (aJw h6) (gc (oM (i:=(i-1).toNat) h4) (gc (oN (g:=aA) h5 h4) (gc h3 (gc (oM (i:=i.toNat) h1) (gc (oN (g:=aA) h2 h1) (gc (bD h0) gn)))))))
theorem aZu{u:List Int}{i x100 x101 i':Int}(h0:i<(u.length:Int))(h1:u[i.toNat]? = some x100)(h2:0≤i)(h3:inR (i-1))(h4:u[(i-1).toNat]? = some x101)(h5:0≤(i-1))(h6:x101<x100)(h7:inR (i+1))(ei':i'=(i+1)):aC Tp 0 aHr (gP dl sk dc u i) .normal (gP dl sk dc u i'):=by
 subst ei';exact aC.fin (g:=⟨(rng [(0,1),(2,4),(7,2),(10,30)]),[],[],[]⟩) (o:=[bT,.x (aA x100),.x (aA x101),bF]) (l:=[_,_,(u.map aA)[((i-1).toNat*1)]? = some (aA x101),_,_,(u.map aA)[(i.toNat*1)]? = some (aA x100),_,_]) (by kernel_rfl) (gc h7 (gc (qK h6) (gc (oM (i:=(i-1).toNat) h4) (gc (oN (g:=aA) h5 h4) (gc h3 (gc (oM (i:=i.toNat) h1) (gc (oN (g:=aA) h2 h1) (gc (bD h0) gn))))))))
theorem aEx{u:List Int}{i:Int}(h0:(u.length:Int)≤i):aC Tp 0 aHr (gP dl sk dc u i) (.exit 0) (gP dl sk dc u i):=by
 exact aC.fin (g:=⟨(rng [(0,1),(2,4),(7,2),(10,30)]),[],[],[]⟩) (o:=[bF]) (l:=[_]) (by kernel_rfl) (gc (bU h0) gn)
end
section

def hZ(q:List Int)(s i:Nat):List Int:=((List.range i).filter fun j=>s / 2 ^ j % 2 == 1).map fun j=>q.getD j 0
def iY(q:List Int):Lqq:=(List.range (2 ^ q.length)).map fun s=>hZ q s q.length

theorem bKg{l:Nat}{q:List Int}(h0:0≤(q.length:Int)∧(q.length:Int)≤60∧IntKind.i64 = .i64)(h1:inR ((1:Int)*2 ^ ((q.length:Int).toNat))):eC Tp 0 (sub (cd Tryz.f182) [0]) ⟨fr 35 [(0,(.yld l)),(1,(.rp [(aH q)] 0))],[]⟩ .normal ⟨fr 35 [(0,(.yld l)),(1,(.rp [(aH q)] 0)),(8,(pI ((1:Int)*2 ^ ((q.length:Int).toNat)))),(9,(pI 0))],[]⟩:=by
 exact eC.fin (g:=⟨(rng [(2,6),(10,25)]),[],[],[]⟩) (o:=[.x (aH q)]) (l:=[_,_,[(aH q)][0]? = some (aH q)]) (by kernel_rfl) (gc h1 (gc h0 (gc rfl gn)))
theorem bKh{l:Nat}{q:List Int}{n8:Int}{s:Nat}:eC Tp 0 (sub (cd Tryz.f182) [1,0,0,0]) ⟨fr 35 [(0,(.yld l)),(1,(.rp [(aH q)] 0)),(8,(pI n8)),(9,(pI (s:Int)))],[]⟩ .normal ⟨fr 35 [(0,(.yld l)),(1,(.rp [(aH q)] 0)),(8,(pI n8)),(9,(pI (s:Int))),(10,(pB (decide ((s:Int)<n8))))],[]⟩:=by
 exact eC.fin (g:=⟨(rng [(2,6),(11,24)]),[],[],[]⟩) (o:=[]) (l:=[]) (by kernel_rfl) (gn)
theorem bKi{l:Nat}{q:List Int}{n8:Int}{s:Nat}:eC Tp 0 (sub (cd Tryz.f182) [1,0,0,1,1,0,0,0]) ⟨fr 35 [(0,(.yld l)),(1,(.rp [(aH q)] 0)),(8,(pI n8)),(9,(pI (s:Int)))],[]⟩ .normal ⟨fr 35 [(0,(.yld l)),(1,(.rp [(aH q)] 0)),(3,(pI (s:Int))),(8,(pI n8)),(9,(pI (s:Int)))],[]⟩:=by
 exact eC.fin (g:=⟨(rng [(2,1),(4,4),(10,25)]),[],[],[]⟩) (o:=[]) (l:=[]) (by kernel_rfl) (gn)
theorem bKj{l:Nat}{q:List Int}{n8:Int}{s:Nat}:eC Tp 0 (sub (cd Tryz.f182) [1,0,0,1,1,0,0,1,0]) ⟨fr 35 [(0,(.yld l)),(1,(.rp [(aH q)] 0)),(3,(pI (s:Int))),(8,(pI n8)),(9,(pI (s:Int)))],[]⟩ .normal ⟨fr 35 [(0,(.yld l)),(1,(.rp [(aH q)] 0)),(3,(pI (s:Int))),(4,(.p bX)),(8,(pI n8)),(9,(pI (s:Int)))],[]⟩:=by
 exact eC.fin (g:=⟨(rng [(2,1),(5,3),(10,25)]),[],[],[]⟩) (o:=[]) (l:=[]) (by kernel_rfl) (gn)
theorem bKk{l:Nat}{q:List Int}{n8:Int}{s:Nat}:eC Tp 0 (sub (cd Tryz.f182) [1,0,0,1,1,0,0,1,1,0,0]) ⟨fr 35 [(0,(.yld l)),(1,(.rp [(aH q)] 0)),(3,(pI (s:Int))),(4,(.p bX)),(8,(pI n8)),(9,(pI (s:Int)))],[]⟩ .normal ⟨fr 35 [(0,(.yld l)),(1,(.rp [(aH q)] 0)),(3,(pI (s:Int))),(4,(.own 0)),(8,(pI n8)),(9,(pI (s:Int))),(13,(pI (q.length:Int))),(14,(pI 0))],[some (.row 3 0 [])]⟩:=by
 exact eC.fin (g:=⟨(rng [(2,1),(5,3),(10,3),(15,20)]),[0],[],[(4,3)]⟩) (o:=[.x (aH q)]) (l:=[[(aH q)][0]? = some (aH q)]) (by kernel_rfl) (gc rfl gn)
theorem bKl{l:Nat}{q:List Int}{n8:Int}{s:Nat}{o:List Int}{i:Nat}:eC Tp 0 (sub (cd Tryz.f182) [1,0,0,1,1,0,0,1,1,0,1,0,0,0]) ⟨fr 35 [(0,(.yld l)),(1,(.rp [(aH q)] 0)),(3,(pI (s:Int))),(4,(.own 0)),(8,(pI n8)),(9,(pI (s:Int))),(13,(pI (q.length:Int))),(14,(pI (i:Int)))],[some (.row 3 o.length (o.map aA))]⟩ .normal ⟨fr 35 [(0,(.yld l)),(1,(.rp [(aH q)] 0)),(3,(pI (s:Int))),(4,(.own 0)),(8,(pI n8)),(9,(pI (s:Int))),(13,(pI (q.length:Int))),(14,(pI (i:Int))),(15,(pB (decide ((i:Int)<(q.length:Int)))))],[some (.row 3 o.length (o.map aA))]⟩:=by
 exact eC.fin (g:=⟨(rng [(2,1),(5,3),(10,3),(16,19)]),[0],[],[]⟩) (o:=[]) (l:=[]) (by kernel_rfl) (gn)
theorem bKm{l:Nat}{q:List Int}{n8:Int}{s:Nat}{o:List Int}{i:Nat}:eC Tp 0 (sub (cd Tryz.f182) [1,0,0,1,1,0,0,1,1,0,1,0,0,1,1,0,0,0]) ⟨fr 35 [(0,(.yld l)),(1,(.rp [(aH q)] 0)),(3,(pI (s:Int))),(4,(.own 0)),(8,(pI n8)),(9,(pI (s:Int))),(13,(pI (q.length:Int))),(14,(pI (i:Int)))],[some (.row 3 o.length (o.map aA))]⟩ .normal ⟨fr 35 [(0,(.yld l)),(1,(.rp [(aH q)] 0)),(3,(pI (s:Int))),(4,(.own 0)),(5,(pI (i:Int))),(8,(pI n8)),(9,(pI (s:Int))),(13,(pI (q.length:Int))),(14,(pI (i:Int)))],[some (.row 3 o.length (o.map aA))]⟩:=by
 exact eC.fin (g:=⟨(rng [(2,1),(6,2),(10,3),(15,20)]),[0],[],[]⟩) (o:=[]) (l:=[]) (by kernel_rfl) (gn)
theorem bKn{l:Nat}{q:List Int}{n8:Int}{s:Nat}{o:List Int}{i:Nat}(h0:0≤((s:Int).fdiv (2 ^ min ((i:Int).toNat) (IntKind.bits .i64)))∧((s:Int).fdiv (2 ^ min ((i:Int).toNat) (IntKind.bits .i64)))≤9223372036854775807∧(1:Int)=1∧IntKind.i64 = .i64):eC Tp 0 (sub (cd Tryz.f182) [1,0,0,1,1,0,0,1,1,0,1,0,0,1,1,0,0,1,0]) ⟨fr 35 [(0,(.yld l)),(1,(.rp [(aH q)] 0)),(3,(pI (s:Int))),(4,(.own 0)),(5,(pI (i:Int))),(8,(pI n8)),(9,(pI (s:Int))),(13,(pI (q.length:Int))),(14,(pI (i:Int)))],[some (.row 3 o.length (o.map aA))]⟩ .normal ⟨fr 35 [(0,(.yld l)),(1,(.rp [(aH q)] 0)),(3,(pI (s:Int))),(4,(.own 0)),(5,(pI (i:Int))),(8,(pI n8)),(9,(pI (s:Int))),(13,(pI (q.length:Int))),(14,(pI (i:Int))),(21,(pB ((((s:Int).fdiv (2 ^ min ((i:Int).toNat) (IntKind.bits .i64))) % 2) == (1:Int))))],[some (.row 3 o.length (o.map aA))]⟩:=by
 exact eC.fin (g:=⟨(rng [(2,1),(6,2),(10,3),(15,6),(22,13)]),[0],[],[]⟩) (o:=[]) (l:=[_,0≤(i:Int)]) (by kernel_rfl) (gc h0 (gc (kQ3 _) gn))
theorem bKo{l:Nat}{q:List Int}{n8:Int}{s:Nat}{o:List Int}{i:Nat}{x0:Int}(h0:q[i]? = some x0)(h1:[(aA x0)].length=1*1∧o.length+1≤1000000):eC Tp 0 (sub (cd Tryz.f182) [1,0,0,1,1,0,0,1,1,0,1,0,0,1,1,0,0,1,1,0]) ⟨fr 35 [(0,(.yld l)),(1,(.rp [(aH q)] 0)),(3,(pI (s:Int))),(4,(.own 0)),(5,(pI (i:Int))),(8,(pI n8)),(9,(pI (s:Int))),(13,(pI (q.length:Int))),(14,(pI (i:Int)))],[some (.row 3 o.length (o.map aA))]⟩ .normal ⟨fr 35 [(0,(.yld l)),(1,(.rp [(aH q)] 0)),(3,(pI (s:Int))),(4,(.own 0)),(8,(pI n8)),(9,(pI (s:Int))),(13,(pI (q.length:Int))),(14,(pI (i:Int)))],[some (.row 3 (o.length+1) ((o.map aA)++[(aA x0)]))]⟩:=by
 exact eC.fin (g:=⟨(rng [(2,1),(5,3),(10,3),(15,20)]),[2],[],[]⟩) (o:=[.x (aH q),.x (aA x0)]) (l:=[_,_,_,[(aH q)][0]? = some (aH q)]) (by kernel_rfl) (gc h1 (gc (atm aA h0) (gc (ixn aA h0) (gc rfl gn))))
theorem bKp{l:Nat}{q:List Int}{n8:Int}{s:Nat}{o:List Int}{i:Nat}(h0:inR (((i+1):Nat):Int)):eC Tp 0 (sub (cd Tryz.f182) [1,0,0,1,1,0,0,1,1,0,1,0,0,1,1,1]) ⟨fr 35 [(0,(.yld l)),(1,(.rp [(aH q)] 0)),(3,(pI (s:Int))),(4,(.own 0)),(8,(pI n8)),(9,(pI (s:Int))),(13,(pI (q.length:Int))),(14,(pI (i:Int)))],[some (.row 3 o.length (o.map aA))]⟩ .normal ⟨fr 35 [(0,(.yld l)),(1,(.rp [(aH q)] 0)),(3,(pI (s:Int))),(4,(.own 0)),(8,(pI n8)),(9,(pI (s:Int))),(13,(pI (q.length:Int))),(14,(pI (((i+1):Nat):Int)))],[some (.row 3 o.length (o.map aA))]⟩:=by
 exact eC.fin (g:=⟨(rng [(2,1),(5,3),(10,3),(15,20)]),[0],[],[]⟩) (o:=[]) (l:=[_]) (by kernel_rfl) (gc h0 gn)
theorem bKq{l:Nat}{q:List Int}{n8:Int}{s:Nat}(h0:inR (((s+1):Nat):Int)):eC Tp 0 (sub (cd Tryz.f182) [1,0,0,1,1,1]) ⟨fr 35 [(0,(.yld l)),(1,(.rp [(aH q)] 0)),(8,(pI n8)),(9,(pI (s:Int)))],[]⟩ .normal ⟨fr 35 [(0,(.yld l)),(1,(.rp [(aH q)] 0)),(8,(pI n8)),(9,(pI (((s+1):Nat):Int)))],[]⟩:=by
 exact eC.fin (g:=⟨(rng [(2,6),(10,25)]),[],[],[]⟩) (o:=[]) (l:=[_]) (by kernel_rfl) (gc h0 gn)
end
end KV
end Go.Proofs
section
namespace Go.Proofs
open Go.RowKit
namespace KV
attribute [local go_sem] Oper.semAt_some
theorem yW(l:List (Nat × AV)):∀ (n k:Nat),(frm l n k).length=n
 | 0,_=>rfl
 | n+1,k=>by unfold frm;rw [uL,yW]
theorem aPs(l:List (Nat × AV)):∀ (n k j:Nat) (h:j<(frm l n k).length),(frm l n k)[j]=look l (k+j)
 | 0,_,j,h=>by simp [frm] at h
 | n+1,k,0,h=>rfl
 | n+1,k,j+1,h=>by
  have:=aPs l n (k+1) j (by rw [yW] at h ⊢;omega)
  rw [show k+(j+1)=k+1+j by omega]
  exact this
theorem aLb{C:Cx}{M:Mem}{w:World}{us:Array Value}:∀ {l:List (Nat × AV)},(∀ p∈l,Rep C M w p.2 (us.getD p.1 undef))→∀ j,Rep C M w (look l j) (us.getD j undef)
 | [],_,j => .any _
 | (i,x)::r,h,j=>by
  unfold look
  split
  ·rename_i hb
   rw [← Nat.eq_of_beq_eq_true hb];exact h (i,x) (iZ ..)
  ·exact aLb (fun p hp=>h p (kQ6 _ hp)) j
theorem aLc{C:Cx}{M:Mem}{w:World}{us:Array Value}{n:Nat}{l:List (Nat × AV)}(hs:us.size=n)(h:∀ p∈l,Rep C M w p.2 (us.getD p.1 undef)):eE C M w (fr n l) us:=by
 refine ⟨by rw [hs,yW],fun i hi => ?_⟩
 rw [aPs,gE];exact aLb h _
theorem tG{C:Cx}{M:Mem}{w:World}{us:Array Value}{n:Nat}{l:List (Nat × AV)}(h:eE C M w (fr n l) us)(i:Nat)(hi:i<n):Rep C M w (look l i) (us.getD i undef):=by
 have:=h.rep i (by rw [yW];exact hi)
 rwa [aPs,gE] at this

section
variable {P:Program}
def InK(Cv:Cx)(V:World)(v0:Value)(st:St)(a:Act)(w:World):Prop:=Sim Tp Cv [] V st a w∧a.tmps.getD 1 undef=v0∧a.defers=[]
theorem InK.step{Cv:Cx}{V:World}{v0:Value}{c:Code}{st st':St}{a:Act}{w:World}{n:Nat}{K:Act→World→Prop}{Q:Exit→Act→World→Prop}(h:eC Tp 0 c st .normal st')(hw:wrR c 1=false)(hi:InK Cv V v0 st a w)
  (hK:∀ a' w',InK Cv V v0 st' a' w'→K a' w'):c.wpIn (Fen none) n Tp (Exit.then K Q) a w :=
 wpIn_mono (h Cv [] V a w (by simp) hi.1 none n) fun e a' w' hq=>by
  obtain ⟨he,hs,hk⟩:=hq;subst he;exact hK a' w' ⟨hs,(hk.1 1 hw).trans hi.2.1,hk.2.trans hi.2.2⟩
end
noncomputable abbrev cO:Code:=cd Tryz.f182
abbrev stA(l:Nat)(q:List Int)(n8:Int)(s:Nat):St:=⟨fr 35 [(0,.yld l),(1,.rp [aH q] 0),(8,.p (aA n8)),(9,.p (aA (s:Int)))],[]⟩
abbrev stB(l:Nat)(q:List Int)(n8:Int)(s:Nat)(o:List Int)(i:Nat):St:=⟨fr 35 [(0,.yld l),(1,.rp [aH q] 0),(3,.p (aA (s:Int))),(4,.own 0),(8,.p (aA n8)),(9,.p (aA (s:Int))),(13,.p (aA (q.length:Int))),(14,.p (aA (i:Int)))],[some (.row 3 o.length (o.map aA))]⟩
theorem aZk(q:List Int)(s i:Nat):hZ q s (i+1)=hZ q s i++if s / 2 ^ i % 2 == 1 then [q.getD i 0] else []:=by
 unfold hZ;rw [List.range_succ,oJ,iB]
 congr 1
 cases h:s / 2 ^ i % 2 == 1 <;> simp [h]
theorem aLd(q:List Int)(s i:Nat):(hZ q s i).length≤i:=by
 unfold hZ;rw [eP];have:=vX (fun j=>s / 2 ^ j % 2 == 1) (List.range i)
 rwa [List.length_range] at this
theorem bKf(s i:Nat)(hi:i≤60):(s:Int).fdiv (2 ^ min ((i:Int).toNat) (IntKind.bits .i64))=((s / 2 ^ i:Nat):Int):=by
 have hb:IntKind.bits .i64=64:=rfl;rw [bGk,hb,Nat.min_eq_left (by omega),Int.fdiv_eq_ediv_of_nonneg _ (by exact_mod_cast Nat.zero_le _)]
 push_cast
 rfl
theorem bEp{Cv:Cx}{V:World}{v0:Value}{l:Nat}{q:List Int}{n8:Int}{s:Nat}(hq:q.length≤60)(hs:s≤9223372036854775807){n:Nat}{K:Act→World→Prop}{Q:Exit→Act→World→Prop}{a:Act}{w:World}
  (hi:InK Cv V v0 (stB l q n8 s [] 0) a w) (hK:∀ a' w',InK Cv V v0 (stB l q n8 s (hZ q s q.length) q.length) a' w'→K a' w') :
  (Code.block 2 (.loop (sub cO [1,0,0,1,1,0,0,1,1,0,1,0,0]))).wpIn (Fen none) n Tp (Exit.then K Q) a w:=by
 refine wpIn_block ?_;refine wpIn_loop_ghost (fun k a w=>∃ i,i≤q.length∧k=q.length-i∧InK Cv V v0 (stB l q n8 s (hZ q s i) i) a w) q.length ⟨0,by omega,by omega,hi⟩ ?_
 rintro k a w ⟨i,hil,rfl,hI⟩;have e1:sub cO [1,0,0,1,1,0,0,1,1,0,1,0,0] = .seq (sub cO [1,0,0,1,1,0,0,1,1,0,1,0,0,0]) (.seq (.cond (.tmp 15) .skip (.exit 2)) (.seq (.block 3 (.seq (sub cO [1,0,0,1,1,0,0,1,1,0,1,0,0,1,1,0,0,0]) (.seq (sub cO [1,0,0,1,1,0,0,1,1,0,1,0,0,1,1,0,0,1,0]) (.cond (.tmp 21) (sub cO [1,0,0,1,1,0,0,1,1,0,1,0,0,1,1,0,0,1,1,0]) .skip)))) (sub cO [1,0,0,1,1,0,0,1,1,0,1,0,0,1,1,1]))):=by kernel_rfl
 rw [e1];refine wpIn_seq ?_;refine InK.step bKl (by kernel_rfl) hI fun a1 w1 h1 => ?_
 refine wpIn_seq ?_;obtain ⟨⟨C1,hS1,_⟩,_⟩:=id h1;have hc15:a1.eval (.tmp 15) = .bool (decide ((i:Int)<(q.length:Int))):=by
  have:=tG hS1 15 (by omega)
  show a1.tmps.getD 15 undef=_;generalize a1.tmps.getD 15 undef=u at this
  have h2:Rep C1 _ w1 (.p (.v (.bool (decide ((i:Int)<(q.length:Int)))))) u:=this;cases h2 with
  | p _ _ h=>cases h;rfl
 by_cases hlt:i<q.length
 ·refine wpIn_cond_true (by rw [hc15,decide_eq_true (by omega)]) (wpIn_skip ?_)
  show Code.wpIn _ _ _ _ _ _ _;have h1':InK Cv V v0 (stB l q n8 s (hZ q s i) i) a1 w1:=⟨(eK (g:=⟨[15],[0],[],[]⟩) (k:=0) (dR _) (by kernel_rfl) h1.1),h1.2⟩
  refine wpIn_seq ?_;have hsd:=bKf s i (by omega)
  have hx:q[i]? = some (q.getD i 0):=by rw [kQ4,kQ0 hlt];rfl
  have hpl:=aLd q s i;have hfin:∀ a2 w2,InK Cv V v0 (stB l q n8 s (hZ q s (i+1)) i) a2 w2→(sub cO [1,0,0,1,1,0,0,1,1,0,1,0,0,1,1,1]).wpIn (Fen none) n Tp (Exit.then (fun a' w'=>∃ n',n'<q.length-i∧∃ i',i'≤q.length∧n'=q.length-i'∧InK Cv V v0 (stB l q n8 s (hZ q s i') i') a' w') (Exit.inBlock 2 (Exit.then K Q))) a2 w2:=fun a2 w2 h2 =>
   InK.step (bKp (aP (by omega))) (by kernel_rfl) h2 fun a3 w3 h3=>⟨q.length-(i+1),by omega,i+1,by omega,rfl,h3⟩
  refine wpIn_block ?_;refine wpIn_seq ?_;refine InK.step bKm (by kernel_rfl) h1' fun a2 w2 h2 => ?_
  refine wpIn_seq ?_;have hle:s / 2 ^ i≤s:=Nat.div_le_self _ _;refine InK.step (bKn (s:=s) (i:=i) ⟨by rw [hsd];exact kQ3 _,by rw [hsd];exact Int.ofNat_le.2 (gI hle hs),rfl,rfl⟩) (by kernel_rfl) h2 fun a3 w3 h3 => ?_
  obtain ⟨⟨C3,hS3,_⟩,_⟩:=id h3;have hc21:a3.eval (.tmp 21) = .bool (s / 2 ^ i % 2 == 1):=by
   have:=tG hS3 21 (by omega)
   show a3.tmps.getD 21 undef=_;generalize a3.tmps.getD 21 undef=u at this
   have h2:Rep C3 _ w3 (.p (.v (.bool (((s:Int).fdiv (2 ^ min ((i:Int).toNat) (IntKind.bits .i64))) % 2 == 1)))) u:=this;cases h2 with
   | p _ _ h =>
    cases h;rw [hsd]
    congr 1
    generalize s / 2 ^ i=z;rw [Bool.eq_iff_iff,beq_iff_eq,beq_iff_eq];omega
  have h3':InK Cv V v0 ⟨fr 35 [(0,.yld l),(1,.rp [aH q] 0),(3,.p (aA (s:Int))),(4,.own 0),(5,.p (aA (i:Int))),(8,.p (aA n8)),(9,.p (aA (s:Int))),(13,.p (aA (q.length:Int))),(14,.p (aA (i:Int)))],[some (.row 3 (hZ q s i).length ((hZ q s i).map aA))]⟩ a3 w3:=⟨(eK (g:=⟨[21],[0],[],[]⟩) (k:=0) (dR _) (by kernel_rfl) h3.1),h3.2⟩
  have hp:=aZk q s i;cases hb:s / 2 ^ i % 2 == 1 with
  | true =>
   refine wpIn_cond_true (by rw [hc21,hb]) ?_
   rw [hb,if_pos rfl] at hp
   refine wpIn_mono (bKo (o:=hZ q s i) hx ⟨rfl,by omega⟩ Cv [] V a3 w3 (by simp) h3'.1 none n) ?_
   rintro e a4 w4 ⟨rfl,h4,hk4⟩;refine hfin a4 w4 ⟨?_,(hk4.1 1 (by kernel_rfl)).trans h3'.2.1,hk4.2.trans h3'.2.2⟩
   have e8:(stB l q n8 s (hZ q s (i+1)) i)=⟨fr 35 [(0,.yld l),(1,.rp [aH q] 0),(3,.p (aA (s:Int))),(4,.own 0),(8,.p (aA n8)),(9,.p (aA (s:Int))),(13,.p (aA (q.length:Int))),(14,.p (aA (i:Int)))],[some (.row 3 ((hZ q s i).length+1) ((hZ q s i).map aA++[aA (q.getD i 0)]))]⟩:=by
    rw [hp];unfold stB;rw [lO,iB];rfl
   rw [e8];exact h4
  | false =>
   refine wpIn_cond_false (by rw [hc21,hb]) (wpIn_skip ?_)
   rw [hb,if_neg (by simp),List.append_nil] at hp
   refine hfin a3 w3 ?_;rw [hp];exact ⟨(eK (g:=⟨[5],[0],[],[]⟩) (k:=0) (dR _) (by kernel_rfl) h3'.1),h3'.2⟩
 ·obtain rfl:i=q.length:=by omega
  refine wpIn_cond_false (by rw [hc15,decide_eq_false (by omega)]) (wpIn_exit ?_)
  show Exit.inBlock 2 (Exit.then K Q) (.exit 2) a1 w1
  unfold Exit.inBlock;dsimp only;rw [if_pos rfl];exact hK a1 w1 ⟨(eK (g:=⟨[15],[0],[],[]⟩) (k:=0) (dR _) (by kernel_rfl) h1.1),h1.2⟩
theorem aHq{a:Act}{W:World}{l id t0 t1 t2 t3:Nat}{ts:Array TypeId}{p0 p1 p2 p3:String}{f0 f1 f2 f3:Array Edge}{u:Value}{A B:World→Prop}{K:Act→World→Prop}{Q:Exit→Act→World→Prop}
  (hs:a.tmps.size=35) (h0:a.tmps.getD 0 undef = .func (.yield l) #[] #[]) (h4:a.tmps.getD 4 undef=u)
  (hy:YieldAt (Fen none) 1 Tp l #[u] W (fun e W'=>(e = .returned (.bool true)∧A W')∨(e = .returned (.bool false)∧B W')))
  (hA:∀ a' W',A W'→a'.defers=a.defers→a'.tmps.size=35→(∀ i,i<30→a'.tmps.getD i undef=a.tmps.getD i undef)→a'.tmps.getD 33 undef = .bool false→K a' W')
  (hB:∀ a' W',B W'→a'.defers=a.defers→a'.tmps.getD 33 undef = .bool true→K a' W') :
  (Code.region id #[{ dst:=some 30,op := .move (.tmp 0),type:=t0,pos:=p0,after:=f0,guard:=none },{ dst:=some 31,op := .move (.tmp 4),type:=t1,pos:=p1,after:=f1,guard:=none },
   {dst:=some 32,op := .call { callee := .value (.tmp 30),args := #[.tmp 31],argTypes:=ts },type:=t2,pos:=p2,after:=f2,guard:=none },{ dst:=some 33,op := .unOp .not 4 (.tmp 32),type:=t3,pos:=p3,after:=f3,guard:=none }] false).wpIn (Fen none) 2 Tp (Exit.then K Q) a W:=by
 refine wpIn_region_lit (wpListIn_plain rfl fun K1 hK1 => ?_)
 unfold Oper.wpIn;refine ⟨fun f _=>trivial,?_⟩
 rw [Oper.semAt_plain _ _ _ (by intro c hc';cases hc')]
 simp only [execOp,Sem.run_pure];refine hK1 _ _ (wpListIn_plain rfl fun K2 hK2 => ?_)
 unfold Oper.wpIn;refine ⟨fun f _=>trivial,?_⟩
 rw [Oper.semAt_plain _ _ _ (by intro c hc';cases hc')]
 simp only [execOp,Sem.run_pure];refine hK2 _ _ (wpListIn_plain rfl fun K3 hK3 => ?_)
 unfold Oper.wpIn;refine ⟨fun f _=>trivial,?_⟩
 rw [Oper.semAt_plain _ _ _ (by intro c hc';cases hc')]
 obtain ⟨fn,tmps,assign,body,hrun,hR⟩:=hy;have e30:(((a.put (some 30) (a.eval (.tmp 0))).put (some 31) ((a.put (some 30) (a.eval (.tmp 0))).eval (.tmp 4)))).eval (.tmp 30) = .func (.yield l) #[] #[]:=by
  show ((a.tmps.setIfInBounds 30 (a.tmps.getD 0 undef)).setIfInBounds 31 _).getD 30 undef=_;rw [h0];simp [kQ1,Array.getElem?_setIfInBounds,hs]
 have e31:(((a.put (some 30) (a.eval (.tmp 0))).put (some 31) ((a.put (some 30) (a.eval (.tmp 0))).eval (.tmp 4)))).eval (.tmp 31)=u:=by
  show ((a.tmps.setIfInBounds 30 (a.tmps.getD 0 undef)).setIfInBounds 31 ((a.tmps.setIfInBounds 30 (a.tmps.getD 0 undef)).getD 4 undef)).getD 31 undef=_;rw [← h4];simp [kQ1,Array.getElem?_setIfInBounds,hs]
 have e45:∀ i,i<30→(((a.put (some 30) (a.eval (.tmp 0))).put (some 31) ((a.put (some 30) (a.eval (.tmp 0))).eval (.tmp 4)))).tmps.getD i undef=a.tmps.getD i undef:=fun i hi=>by
  rw [nT (fun e=>by cases e;omega),nT (fun e=>by cases e;omega)]
 have eD:(((a.put (some 30) (a.eval (.tmp 0))).put (some 31) ((a.put (some 30) (a.eval (.tmp 0))).eval (.tmp 4)))).defers=a.defers:=rfl;have eS:(((a.put (some 30) (a.eval (.tmp 0))).put (some 31) ((a.put (some 30) (a.eval (.tmp 0))).eval (.tmp 4)))).tmps.size=35:=by
  show ((a.tmps.setIfInBounds _ _).setIfInBounds _ _).size=35;simp [hs]
 revert e30 e31 e45 eD eS;dsimp only;generalize (((a.put (some 30) (a.eval (.tmp 0))).put (some 31) ((a.put (some 30) (a.eval (.tmp 0))).eval (.tmp 4))))=a2;intro e30 e31 e45 eD eS;have er:Sem.run Tp (execOp a2.eval { dst:=some 32,op := .call { callee := .value (.tmp 30),args := #[.tmp 31],argTypes:=ts },type:=t2,pos:=p2,after:=f2,guard:=none }) W = .ok (.round l fn tmps assign body) W:=by
  rw [← hrun];simp only [execOp,resolve,Deferred.ofValue,e30,e31,List.map_toArray,iN,List.map_nil,Sem.run_bind,Sem.run_pure,invoke];simp
 rw [er,Oper.uponIn_round];refine ⟨fun h=>by simp [Fen,Fence.wide] at h,hR.mono ?_⟩
 have last:∀ (b:Bool) (w3:World),(∀ a',a'.defers=a.defers→a'.tmps.size=35→(∀ i,i<30→a'.tmps.getD i undef=a.tmps.getD i undef)→a'.tmps.getD 33 undef = .bool (!b)→K a' w3)→K3 (a2.put (some 32) (.bool b)) w3:=fun b w3 hfin=>by
  refine hK3 _ _ (wpListIn_plain rfl fun K4 hK4 => ?_)
  unfold Oper.wpIn;refine ⟨fun f _=>trivial,?_⟩
  rw [Oper.semAt_plain _ _ _ (by intro c hc';cases hc')]
  have e32:(a2.put (some 32) (.bool b)).eval (.tmp 32) = .bool b:=by
   show (a2.tmps.setIfInBounds 32 _).getD 32 undef=_;simp [kQ1,eS]
  have eu:Sem.run Tp (execOp (a2.put (some 32) (.bool b)).eval { dst:=some 33,op := .unOp .not 4 (.tmp 32),type:=t3,pos:=p3,after:=f3,guard:=none }) w3 = .ok (.value (.bool !b)) w3:=by
   simp only [execOp,e32];rfl
  rw [eu];refine hK4 _ _ (wpListIn_nil (hfin _ eD ?_ (fun i hi => ?_) ?_))
  ·show ((a2.tmps.setIfInBounds _ _).setIfInBounds _ _).size=35
   simp [eS]
  ·rw [nT (fun e=>by cases e;omega),nT (fun e=>by cases e;omega)]
   exact e45 i hi
  ·show ((a2.tmps.setIfInBounds 32 _).setIfInBounds 33 _).getD 33 undef=_
   simp [kQ1,eS]
 rintro e w3 (⟨rfl,h⟩ | ⟨rfl,h⟩)
 ·exact last true w3 fun a' h1 h2 h3 h4=>hA a' w3 h h1 h2 h3 h4
 ·exact last false w3 fun a' h1 h2 h3 h4=>hB a' w3 h h1 h4
end KV
end Go.Proofs
end
section
namespace Go.Proofs
open Go.RowKit
namespace KV
structure Lp (l:Nat) (v0:Value) (n8:Int) (s:Nat) (a:Act):Prop where
 size:a.tmps.size=35
 s0:a.tmps.getD 0 undef = .func (.yield l) #[] #[]
 s1:a.tmps.getD 1 undef=v0
 s8:a.tmps.getD 8 undef = .int .i64 n8
 s9:a.tmps.getD 9 undef = .int .i64 (s:Int)
 df:a.defers=[]
abbrev cxF(F:Nat→Prop):Cx:={ ι:=fun _=>none,κ:=fun _=>0,F:=F,R:=[] }
theorem aSj{P:Program}{F:Nat→Prop}{W:World}(hF:∀ b,F b→b<W.heap.size):aR P (cxF F) [] W :=
 ⟨fun _ _ _ _ h=>by simp at h,fun _ _ _ h=>by simp at h,fun _ _ _ h=>by simp at h,fun _ _ _ _ _ h=>by simp at h,fun _ _ _ h=>by simp at h,hF,fun _ _ _ h=>by simp at h⟩
theorem aKz{C:Cx}{M:Mem}{w:World}{n:Int}{u:Value}(h:Rep C M w (.p (aA n)) u):u = .int .i64 n:=by
 cases h with
 | p _ _ h=>cases h;rfl
theorem Lp.ink{F:Nat→Prop}{l:Nat}{v0:Value}{q:List Int}{n8:Int}{s:Nat}{a:Act}{W:World}(h:Lp l v0 n8 s a)(hF:∀ b,F b→b<W.heap.size)(hr:Rep (cxF F) [] W (.rp [aH q] 0) v0):InK (cxF F) W v0 (stA l q n8 s) a W:=by
 refine ⟨⟨cxF F,aLc h.size ?_,aSj hF,Fr.refl _ _ _,?_⟩,h.s1,h.df⟩
 ·intro p hp
  simp only [fB,List.not_mem_nil,or_false] at hp
  rcases hp with rfl | rfl | rfl | rfl
  ·rw [h.s0];exact .yld l
  ·rw [h.s1];exact hr
  ·rw [h.s8];exact .p _ _ (.v _)
  ·rw [h.s9];exact .p _ _ (.v _)
 ·rw [h.df];exact .nil rfl (nE rfl)
theorem InK.lp{Cv:Cx}{V W:World}{l:Nat}{v0:Value}{n8:Int}{s:Nat}{a:Act}{st:St}(h:InK Cv V v0 st a W)(h35:st.t.length=35)(e0:st.t[0]? = some (.yld l))(e8:st.t[8]? = some (.p (aA n8)))(e9:st.t[9]? = some (.p (aA (s:Int)))):Lp l v0 n8 s a:=by
 obtain ⟨⟨C,hS,_⟩,h1,hd⟩:=h;refine ⟨hS.size.trans h35,?_,h1,aKz (hS.at e8),aKz (hS.at e9),hd⟩
 have:=hS.at e0
 revert this;generalize a.tmps.getD 0 undef=u;intro this;cases this;rfl
theorem aLa{C0 C:Cx}{V W:World}{M:Mem}(h:Fr C0 [] V C M W):V.grownBy W none :=
 ⟨h.os,h.tape,h.out,h.size,fun k hk _=>h.keep k hk (fun _ _ h=>by simp at h)⟩
theorem InK.grown{Cv:Cx}{V W:World}{v0:Value}{st:St}{a:Act}(h:InK Cv V v0 st a W):V.grownBy W none:=by
 obtain ⟨⟨C,_,_,hF,_⟩,_⟩:=h;exact aLa hF
theorem InK.kp{Cv:Cx}{V W:World}{v0:Value}{st:St}{a:Act}(h:InK Cv V v0 st a W){F:Nat→Prop}(hF:∀ b,F b→b<V.heap.size):KpG F V W :=
 ⟨h.grown.size,fun b hb=>nU h.grown b (hF b hb)⟩
theorem InK.rowH{F:Nat→Prop}{V W:World}{v0:Value}{st:St}{a:Act}{o:List Int}(h:InK (cxF F) V v0 st a W)(e4:st.t[4]? = some (.own 0))(em:st.m=[some (lE o)])(hl:o.length≤1000):bEq Tp (o,a.tmps.getD 4 undef) V W:=by
 obtain ⟨⟨C,hS,hM,hF,_⟩,_⟩:=h;refine ⟨hl,C,em ▸ hM,em ▸ hS.at e4,fun b hb => ?_⟩
 rcases hF.new 0 (lE o) b (by rw [em];rfl) rfl hb with h | ⟨i,o',h,_⟩
 ·exact h
 ·simp at h
theorem aSk{n:Nat}(h:n≤1152921504606846977):inR (n:Int):=by unfold inR;omega
theorem bEo{n:Nat}(h:n≤60):(2:Nat) ^ n≤1152921504606846976:=gI (Nat.pow_le_pow_right (by omega) h) (by decide)
theorem aZh(q:List Int)(s:Nat)(h:s<2 ^ q.length):(iY q).take (s+1)=(iY q).take s++[hZ q s q.length]:=by
 rw [List.take_add_one]
 congr 1
 unfold iY;rw [iM,aNj h];rfl
theorem vA(q:List Int):(iY q).length=2 ^ q.length:=by unfold iY;simp
set_option maxHeartbeats 2000000 in
theorem aZi{F:Nat→Prop}{q:List Int}(hq:q.length≤60){l:Nat}{v0:Value}{w:World}(hF:∀ b,F b→b<w.heap.size)(hr:Rep (cxF F) [] w (.rp [aH q] 0) v0){a:Act}(ha:a.tmps.size=35)(ha0:a.tmps.getD 0 undef = .func (.yield l) #[] #[])(ha1:a.tmps.getD 1 undef=v0)(had:a.defers=[])
  {J Jx:List (List Int × Value)→World→Prop} (hJ:AbidesFrom w.heap.size J) (hJx:AbidesFrom w.heap.size Jx)
  (hY:∀ pre x W0 W1,J pre W0→W0.grownBy W1 none→bEq Tp x W0 W1→pre.length<2 ^ q.length→YieldAt (Fen none) 1 Tp l #[x.2] W1 fun e W' =>
   (e = .returned (.bool true)∧J (pre++[x]) W'∧KpG F W0 W')∨(e = .returned (.bool false)∧Jx (pre++[x]) W'))
  (h0:J [] w) {R:Ending→World→Prop} (hR:∀ W',((∃ xs:List (List Int × Value),xs.map (·.1)=iY q∧J xs W')∨(∃ pre:List (List Int × Value),pre.map (·.1) <+: iY q∧Jx pre W'))→R (.returned (.tuple #[])) W') :
  cO.wpIn (Fen none) 2 Tp (bodyPost Tp Tryz.f182 R) a w:=by
 have hpow:=bEo hq;obtain ⟨N,hN⟩:∃ N,2 ^ q.length=N:=⟨_,rfl⟩;rw [hN] at hpow
 have c0 : cO = .seq (sub cO [0]) (.block 0 (.loop (.seq (sub cO [1, 0, 0, 0]) (.seq (.cond (.tmp 10) .skip (.exit 0)) (.seq (.block 1 (.seq (sub cO [1, 0, 0, 1, 1, 0, 0, 0]) (.seq (sub cO [1, 0, 0, 1, 1, 0, 0, 1, 0]) (.seq (.seq (sub cO [1, 0, 0, 1, 1, 0, 0, 1, 1, 0, 0]) (.block 2 (.loop (sub cO [1, 0, 0, 1, 1, 0, 0, 1, 1, 0, 1, 0, 0])))) (.seq (.region 10 #[{ dst := some 30, op := .move (.tmp 0), type := 155, pos := "outcome.go:38", after := #[], guard := none }, { dst := some 31, op := .move (.tmp 4), type := 33, pos := "outcome.go:38", after := #[], guard := none }, { dst := some 32, op := .call { callee := .value (.tmp 30), args := #[.tmp 31], argTypes := #[33] }, type := 4, pos := "outcome.go:38", after := #[{ on := 0, ground := .data }, { on := 1, ground := .data }], guard := none }, { dst := some 33, op := .unOp .not 4 (.tmp 32), type := 4, pos := "outcome.go:38", after := #[{ on := 2, ground := .data }], guard := none }] false) (.cond (.tmp 33) .ret .skip)))))) (sub cO [1, 0, 0, 1, 1, 1])))))) := by kernel_rfl
 rw [c0];have hsame:∀ {W'},KpG F w W'→Rep (cxF F) [] W' (.rp [aH q] 0) v0:=fun hk=>by
  cases hr with
  | rp _ _ b o us h1 h2 h3 =>
   exact .rp _ _ b o us (fun i hi=>⟨(h1 i hi).1,(eI (hk.same b (h1 i hi).1) _).trans (h1 i hi).2⟩) (fun i hi=>(h2 i hi).mono (fun _ h=>h) hk.same) h3
 have hFw:∀ {W'},KpG F w W'→∀ b,F b→b<W'.heap.size:=fun hk b hb=>kQ8 (hF b hb) hk.size
 have n8e:(1:Int)*2 ^ ((q.length:Int).toNat)=(N:Int):=by
  rw [bGk,Int.one_mul,← hN];push_cast;rfl
 have hI0:InK (cxF F) w v0 ⟨fr 35 [(0,.yld l),(1,.rp [aH q] 0)],[]⟩ a w:=by
  refine ⟨⟨cxF F,aLc ha ?_,aSj hF,Fr.refl _ _ _,by rw [had];exact .nil rfl (nE rfl)⟩,ha1,had⟩
  intro p hp;simp only [fB,List.not_mem_nil,or_false] at hp
  rcases hp with rfl | rfl
  ·rw [ha0];exact .yld l
  ·rw [ha1];exact hr
 refine wpIn_seq ?_;refine InK.step (bKg (l:=l) (q:=q) ⟨by omega,by omega,rfl⟩ (by rw [n8e];exact aSk (by omega))) (by kernel_rfl) hI0 fun a1 w1 h1 => ?_
 rw [n8e] at h1
 refine wpIn_block ?_;refine wpIn_loop_ghost (fun k a W=>∃ s,s≤N∧k=N-s∧Lp l v0 (N:Int) s a∧KpG F w W∧∃ pre:List (List Int × Value),pre.map (·.1)=(iY q).take s∧J pre W) (N)
  ⟨0,by omega,by omega,h1.lp (s:=0) (by rfl) (by rfl) (by rfl) (by rfl),h1.kp hF,[],by simp,hJ [] w w1 none h0 h1.grown (fun r e=>by cases e)⟩ ?_
 rintro k a W ⟨s,hs,rfl,hL,hK,pre,hpre,hJp⟩;have hI:=hL.ink (hFw hK) (hsame hK);have grow:∀ {W0 W':World} {ys},KpG F w W0→J ys W0→W0.grownBy W' none→J ys W':=fun hk hj hg=>hJ _ _ _ none hj hg (fun r e=>by cases e)
 refine wpIn_seq ?_;refine InK.step bKh (by kernel_rfl) hI fun a2 w2 h2 => ?_
 have hc10:a2.eval (.tmp 10) = .bool (decide ((s:Int)<(N:Int))):=by
  obtain ⟨⟨C2,hS2,_⟩,_⟩:=id h2;have:=tG hS2 10 (by omega)
  show a2.tmps.getD 10 undef=_;revert this;generalize a2.tmps.getD 10 undef=u;intro this;have h3:Rep C2 _ w2 (.p (.v (.bool (decide ((s:Int)<(N:Int)))))) u:=this;cases h3 with
  | p _ _ h=>cases h;rfl
 refine wpIn_seq ?_
 by_cases hlt:s<N
 ·refine wpIn_cond_true (by rw [hc10,decide_eq_true (by omega)]) (wpIn_skip ?_)
  show Code.wpIn _ _ _ _ _ _ _;have h2':InK (cxF F) W v0 (stA l q (N:Int) s) a2 w2:=⟨(eK (g:=⟨[10],[],[],[]⟩) (k:=0) (dR _) (by kernel_rfl) h2.1),h2.2⟩
  refine wpIn_seq ?_;refine wpIn_block ?_;refine wpIn_seq ?_;refine InK.step bKi (by kernel_rfl) h2' fun a3 w3 h3 => ?_
  refine wpIn_seq ?_;refine InK.step bKj (by kernel_rfl) h3 fun a4 w4 h4 => ?_
  refine wpIn_seq ?_;refine wpIn_seq ?_;refine InK.step bKk (by kernel_rfl) h4 fun a5 w5 h5 => ?_
  refine bEp hq (by omega) h5 fun a6 w6 h6 => ?_
  refine wpIn_seq ?_;have hL6:Lp l v0 (N:Int) s a6:=h6.lp (s:=s) (by rfl) (by rfl) (by rfl) (by rfl)
  have hpl:pre.length=s:=by
   have:=congrArg List.length hpre;rw [eP,lC,vA,hN] at this
   omega
  have hrow:bEq Tp (hZ q s q.length,a6.tmps.getD 4 undef) W w6:=h6.rowH (by rfl) (by rfl) (gI (aLd q s q.length) (by omega))
  have hmap:(pre++[(hZ q s q.length,a6.tmps.getD 4 undef)]).map (·.1)=(iY q).take (s+1):=by
   rw [aZh q s (hN ▸ hlt),iB,hpre];rfl
  refine aHq hL6.size hL6.s0 rfl (hY pre _ W w6 hJp h6.grown hrow (by omega)) (A:=fun W'=>J (pre++[(hZ q s q.length,a6.tmps.getD 4 undef)]) W'∧KpG F W W') (B:=fun W'=>Jx (pre++[(hZ q s q.length,a6.tmps.getD 4 undef)]) W') ?_ ?_
  ·rintro a7 w7 ⟨hj7,hk7⟩ hd7 hs7 hl7 h33
   refine wpIn_cond_false h33 (wpIn_skip ?_);show Code.wpIn _ _ _ _ _ _ _;have hL7:Lp l v0 (N:Int) s a7:=⟨hs7,(hl7 0 (by omega)).trans hL6.s0,(hl7 1 (by omega)).trans hL6.s1,(hl7 8 (by omega)).trans hL6.s8,(hl7 9 (by omega)).trans hL6.s9,hd7.trans hL6.df⟩
   have hK7:=hK.trans hk7;refine InK.step (bKq (aSk (by omega))) (by kernel_rfl) (hL7.ink (hFw hK7) (hsame hK7)) fun a8 w8 h8 => ?_
   exact ⟨N-(s+1),by omega,s+1,by omega,rfl,h8.lp (by rfl) (by rfl) (by rfl) (by rfl),hK7.trans (h8.kp (hFw hK7)),_,hmap,grow hK7 hj7 h8.grown⟩
  ·rintro a7 w7 hj7 hd7 h33
   refine wpIn_cond_true h33 (wpIn_ret ?_);exact bodyPost_ret (results_none rfl _ _ _) (hd7.trans hL6.df) (hR _ (.inr ⟨_,by rw [hmap];exact List.take_prefix _ _,hj7⟩))
 ·have hsN:s=N:=by omega
  subst hsN;refine wpIn_cond_false (by rw [hc10,decide_eq_false (by omega)]) (wpIn_exit ?_)
  have hL2:Lp l v0 (s:Int) s a2:=h2.lp (by rfl) (by rfl) (by rfl) (by rfl)
  show Exit.inBlock 0 (bodyPost Tp Tryz.f182 R) (.exit 0) a2 w2;unfold Exit.inBlock;dsimp only;rw [if_pos rfl];refine ⟨hL2.df,_,results_none rfl _ _ _,hR _ (.inl ⟨pre,?_,grow hK hJp h2.grown⟩)⟩;rw [hpre,← hN,← vA,List.take_length]
theorem bTz{C:Cx}{M:Mem}{w:World}{cs:List PV}{k:Nat}{u:Value}(h:Rep C M w (.rp cs k) u):Rep (cxF C.F) [] w (.rp cs k) u:=by
 cases h with
 | rp _ _ b o us h1 h2 h3=>exact .rp _ _ b o us h1 h2 h3
theorem bUa{F:Nat→Prop}{w W:World}{cs:List PV}{k:Nat}{u:Value}(h:Rep (cxF F) [] w (.rp cs k) u)(hk:KpG F w W):Rep (cxF F) [] W (.rp cs k) u:=by
 cases h with
 | rp _ _ b o us h1 h2 h3=>exact .rp _ _ b o us (fun i hi=>⟨(h1 i hi).1,(eI (hk.same b (h1 i hi).1) _).trans (h1 i hi).2⟩) (fun i hi=>(h2 i hi).mono (fun _ h=>h) hk.same) h3
theorem aZj(y v0:Value)(k:Nat):(#[y] ++ #[v0]++Array.replicate k undef).size=2+k∧(#[y] ++ #[v0]++Array.replicate k undef).getD 0 undef=y∧(#[y] ++ #[v0]++Array.replicate k undef).getD 1 undef=v0:=by
 refine ⟨by simp,?_,?_⟩ <;> simp [kQ1,Array.getElem?_append]
theorem aEt(q:List Int)(hq:q.length≤60):bLz Tp (.fn 182 [] [.rp [aH q] 0]) 182 (2 ^ q.length) (iY q):=fun C M w u hu0 hFs=>by
 cases hu0 with
 | fn _ _ _ us vs h1 h2 h3 h4 =>
  obtain rfl:us = #[]:=by simpa using h1
  have q0:=h4 0 (by simp)
  simp only [List.getElem_cons_zero] at q0
  obtain ⟨v0,rfl⟩:∃ v0,vs = #[v0]:=by
   have:vs.toList.length=1:=by simpa using h2
   match hv:vs.toList,this with
   | [x0],_=>exact ⟨x0,by rw [← hv]⟩
  change Rep C M w (.rp [aH q] 0) v0 at q0
  have hr:=bTz q0;refine ⟨#[v0],rfl,fun l J Jx W hW hJ hJx hY h0 => ?_⟩
  have hk:KpG C.F w W:=⟨hW.size,fun b hb=>hW.block b (hFs b hb)⟩
  have hr':=bUa hr hk;refine callsIn_of_wp Tryz.func182 rfl trivial ?_ rfl;obtain ⟨k1,k2,k3⟩:=aZj (.func (.yield l) #[] #[]) v0 (Tryz.f182.ntmps-(#[Value.func (.yield l) #[] #[]] ++ #[v0]).size);exact aZi hq (fun b hb=>kQ8 (hFs b hb) hW.size) hr' (a:={ tmps := #[.func (.yield l) #[] #[]] ++ #[v0]++Array.replicate (Tryz.f182.ntmps-(#[Value.func (.yield l) #[] #[]] ++ #[v0]).size) undef,defers:=[] }) k1 k2 k3 rfl hJ hJx hY h0 fun W' h=>⟨⟨_,rfl⟩,h⟩
end KV
end Go.Proofs
end
namespace Go.Proofs
namespace KV
section
variable {dl:Int}{sk dc:Lqq}

noncomputable abbrev mZ:Code:=sub (cd Tryz.f129) [1,0,1,0,0]
noncomputable abbrev nA:Code:=sub (cd Tryz.f54) [1,1,1,0,1,0,0]
theorem bEl:((-1:Int) == (-1:Int))=true:=by first | decide | simp
theorem aPk{q:List Int}{base:Nat}:FV Tp 132 [(.p (aH q))] base (.fn 182 [] [(.rp [(aH q)] 0)]) []:=by
 exact FV.fin Tryz.func132 rfl (o:=[.g 3 ⟨[],[],[0],[]⟩]) (l:=[]) (by kernel_rfl) (gn)
abbrev bEm(dl:Int)(sk dc:Lqq)(x:List Int)(r:Int):Prop:=∀ base:Nat,FV Tp 128 [pK dl sk dc,.p (.agg (x.map aA))] base (pI r) []
theorem bRr{n dl:Int}{sk dc:Lqq}{bib tm y0 y1 y2 y3 y4 y5 r6:Int}{r0:Bool}(h0:cJ .i64 (atF dc.reverse) (.int .i64 n))(h1:(dL (atF dc.reverse) (.int .i64 n))=true)(h2:fD (atF dc.reverse) (.int .i64 n)=some (dcE y0 y1 y2 y3 y4 y5))(h3:bEm dl sk dc [y0,y1,y2,y3,y4,y5] r6)(er0:r0=(r6 != bib)){base:Nat}:FV Tp 189 [(pI n),(.rp [(PV.rp (aI dl sk dc) 0)] 0),(.rp [(aA bib),(aA tm)] 0)] base (pB r0) []:=by
 subst er0;exact FV.fin Tryz.func189 rfl (o:=[.x (PV.rp (aI dl sk dc) 0),.x (PV.rp (aI dl sk dc) 0),.x (.mp (atF dc.reverse)),bT,.x (dcE y0 y1 y2 y3 y4 y5),.c (pI r6) [],.x (aA bib)]) (l:=[[(aA bib),(aA tm)][0]? = some (aA bib),FC Tp 128 [(.rp (aI dl sk dc) 0),(.p (dcE y0 y1 y2 y3 y4 y5))] [] 0 (pI r6) [],_,_,_,(aI dl sk dc)[3]? = some (.mp (atF dc.reverse)),[(PV.rp (aI dl sk dc) 0)][0]? = some (PV.rp (aI dl sk dc) 0),[(PV.rp (aI dl sk dc) 0)][0]? = some (PV.rp (aI dl sk dc) 0)]) (by kernel_rfl) (gc rfl (gc (FV.fc (h3 _) rfl) (gc h2 (gc h1 (gc h0 (gc rfl (gc rfl (gc rfl gn))))))))
theorem bRs{n m:Int}{r0:Bool}(er0:r0=(n == m)){base:Nat}:FV Tp 133 [(pI n),(.rp [(aA m)] 0)] base (pB r0) []:=by
 subst er0;exact FV.fin Tryz.func133 rfl (o:=[.x (aA m)]) (l:=[[(aA m)][0]? = some (aA m)]) (by kernel_rfl) (gc rfl gn)
abbrev bEn(dl:Int)(sk dc:Lqq):PV := .rp (aI dl sk dc) 0
abbrev aPl(dl:Int)(sk dc:Lqq)(bib tm n:Int)(b:Bool):Prop:=∀ base:Nat,FV Tp 189 [.p (aA n),.rp [bEn dl sk dc] 0,.rp [aA bib,aA tm] 0] base (pB b) []
theorem aHp(n m:Int){base:Nat}:FV Tp 133 [.p (aA n),.rp [aA m] 0] base (pB (n == m)) []:=bRs rfl
def fP(l:List Int)(dl:Int)(sk:Lqq)(dc:Lqq)(bib:Int)(tm:Int)(i:Nat):St:=⟨fr 19 [(0,(.own 0)),(1,(.fn 189 [] [(.rp [(PV.rp (aI dl sk dc) 0)] 0),(.rp [(aA bib),(aA tm)] 0)])),(7,(pI (l.length:Int))),(8,(pI (i:Int)))],[some (.row 3 l.length (l.map aA))]⟩
theorem bJz{l:List Int}{dl:Int}{sk dc:Lqq}{bib tm:Int}{i'0:Nat}(hl0:aM Tp 1 mZ (fP l dl sk dc bib tm 0) (.exit 0) (fP l dl sk dc bib tm i'0)):FMM Tp 129 [(.own 0),(.fn 189 [] [(.rp [(PV.rp (aI dl sk dc) 0)] 0),(.rp [(aA bib),(aA tm)] 0)])] [some (.row 3 l.length (l.map aA))] (pI (-1:Int)) [some (.row 3 l.length (l.map aA))]:=by
 exact FMM.fin (k:=1) (g:=⟨[],[],[],[]⟩) rfl Tryz.func129 rfl (o:=[.k 6 ⟨(rng [(2,5),(9,10)]),[],[],[]⟩ (.exit 0) (fP l dl sk dc bib tm i'0)]) (l:=[_]) (by kernel_rfl) (gc hl0.code gn)
theorem bKa{l:List Int}{dl:Int}{sk dc:Lqq}{bib tm:Int}{i'0:Nat}(hl0:aM Tp 1 mZ (fP l dl sk dc bib tm 0) .ret (cH (fP l dl sk dc bib tm i'0) [(4,(pI (i'0:Int)))])):FMM Tp 129 [(.own 0),(.fn 189 [] [(.rp [(PV.rp (aI dl sk dc) 0)] 0),(.rp [(aA bib),(aA tm)] 0)])] [some (.row 3 l.length (l.map aA))] (pI (i'0:Int)) [some (.row 3 l.length (l.map aA))]:=by
 exact FMM.fin (k:=1) (g:=⟨[],[],[],[]⟩) rfl Tryz.func129 rfl (o:=[.k 6 ⟨(rng [(2,5),(9,10)]),[],[],[]⟩ .ret (cH (fP l dl sk dc bib tm i'0) [(4,(pI (i'0:Int)))])]) (l:=[_]) (by kernel_rfl) (gc hl0.code gn)
theorem aPm{l:List Int}{dl:Int}{sk dc:Lqq}{bib tm:Int}{i:Nat}{x100:Int}{b101:Bool}(h0:(i:Int)<(l.length:Int))(h1:l[i]? = some x100)(h2:aPl dl sk dc bib tm x100 b101)(h3:b101=true):aC Tp 1 mZ (fP l dl sk dc bib tm i) .ret (cH (fP l dl sk dc bib tm i) [(4,(pI (i:Int)))]):=by
 exact aC.fin (g:=⟨(rng [(2,2),(5,2),(9,10)]),[],[],[]⟩) (o:=[bT,.x (aA x100),.c (pB b101) [],bT]) (l:=[_,FC Tp 189 [(pI x100),(.rp [(PV.rp (aI dl sk dc) 0)] 0),(.rp [(aA bib),(aA tm)] 0)] [] 1 (pB b101) [],_,_,_]) (by kernel_rfl) (gc h3 (gc (FV.fc (h2 _) rfl) (gc (atm aA h1) (gc (cU (i:=(i:Int)) (kQ3 _) h1) (gc (bD h0) gn)))))
theorem aPn{l:List Int}{dl:Int}{sk dc:Lqq}{bib tm:Int}{i:Nat}{x100:Int}{b101:Bool}{i':Nat}(h0:(i:Int)<(l.length:Int))(h1:l[i]? = some x100)(h2:aPl dl sk dc bib tm x100 b101)(h3:b101=false)(h4:inR (((i+1):Nat):Int))(ei':i'=(i+1)):aC Tp 1 mZ (fP l dl sk dc bib tm i) .normal (fP l dl sk dc bib tm i'):=by
 subst ei';exact aC.fin (g:=⟨(rng [(2,5),(9,10)]),[],[],[]⟩) (o:=[bT,.x (aA x100),.c (pB b101) [],bF]) (l:=[_,_,FC Tp 189 [(pI x100),(.rp [(PV.rp (aI dl sk dc) 0)] 0),(.rp [(aA bib),(aA tm)] 0)] [] 1 (pB b101) [],_,_,_]) (by kernel_rfl) (gc h4 (gc h3 (gc (FV.fc (h2 _) rfl) (gc (atm aA h1) (gc (cU (i:=(i:Int)) (kQ3 _) h1) (gc (bD h0) gn))))))
theorem aPo{l:List Int}{dl:Int}{sk dc:Lqq}{bib tm:Int}{i:Nat}(h0:(l.length:Int)≤(i:Int)):aC Tp 1 mZ (fP l dl sk dc bib tm i) (.exit 0) (fP l dl sk dc bib tm i):=by
 exact aC.fin (g:=⟨(rng [(2,5),(9,10)]),[],[],[]⟩) (o:=[bF]) (l:=[_]) (by kernel_rfl) (gc (bU h0) gn)
abbrev bKb(l:List Int)(dl:Int)(sk:Lqq)(dc:Lqq)(bib:Int)(tm:Int)(i:Int):Prop:=FMM Tp 129 [.own 0,(.fn 189 [] [(.rp [(PV.rp (aI dl sk dc) 0)] 0),(.rp [(aA bib),(aA tm)] 0)])] [some (.row 3 l.length (l.map aA))] (pI i) [some (.row 3 l.length (l.map aA))]
def kG(dl:Int)(sk:Lqq)(dc:Lqq)(bib:Int)(tm:Int)(cn:Nat)(cc:List PV)(i:Nat)(j:Nat):St:=⟨fr 42 [(0,(.own 0)),(1,(.fn 189 [] [(.rp [(PV.rp (aI dl sk dc) 0)] 0),(.rp [(aA bib),(aA tm)] 0)])),(4,(.p bX)),(5,(pI (i:Int))),(6,(pI (j:Int)))],[some (.row 3 cn cc)]⟩
theorem bRt{l:List Int}{dl:Int}{sk dc:Lqq}{bib tm:Int}{i0:Nat}{c'1:List Int}{i'2 j'3:Nat}{r0c:List PV}(h0:bKb l dl sk dc bib tm (i0:Int))(h1:(i0:Int)≠(-1:Int))(h2:inR (((i0+1):Nat):Int))(hl3:aM Tp 1 nA (kG dl sk dc bib tm l.length (l.map aA) i0 (i0+1)) (.exit 0) (kG dl sk dc bib tm c'1.length (c'1.map aA) i'2 j'3))(h4:0≤(i'2:Int)∧(i'2:Int)≤(c'1.length:Int)∧(c'1.length:Int)≤(c'1.length:Int))(h5:(i'2*1)+(c'1.length-i'2)≤(c'1.map aA).length)(h6:0≤(0:Int)∧(0:Int)≤(i'2:Int)∧(i'2:Int)≤(c'1.length:Int))(er0c:r0c=((((c'1.map aA).take (i'2*1)++List.replicate (c'1.length-i'2) (PV.v (.int .i64 0))++(c'1.map aA).drop ((i'2*1)+(List.replicate (c'1.length-i'2) (PV.v (.int .i64 0))).length)).drop 0).take (i'2*(((c'1.map aA).take (i'2*1)++List.replicate (c'1.length-i'2) (PV.v (.int .i64 0))++(c'1.map aA).drop ((i'2*1)+(List.replicate (c'1.length-i'2) (PV.v (.int .i64 0))).length)).length / c'1.length)))):FMM Tp 54 [(.own 0),(.fn 189 [] [(.rp [(PV.rp (aI dl sk dc) 0)] 0),(.rp [(aA bib),(aA tm)] 0)])] [some (.row 3 l.length (l.map aA))] (.p (.sl i'2 r0c)) [some .dead]:=by
 subst er0c;exact FMM.fin (k:=1) (g:=⟨[],[],[0],[]⟩) rfl Tryz.func54 rfl (o:=[.c (pI (i0:Int)) [(0,(.row 3 l.length (l.map aA)))],bF,.k 4 ⟨(rng [(2,2),(7,29)]),[],[],[]⟩ (.exit 0) (kG dl sk dc bib tm c'1.length (c'1.map aA) i'2 j'3)]) (l:=[_,_,_,_,_,_,FC Tp 129 [(.own 0),(.fn 189 [] [(.rp [(PV.rp (aI dl sk dc) 0)] 0),(.rp [(aA bib),(aA tm)] 0)])] [(0,(.row 3 l.length (l.map aA)))] 1 (pI (i0:Int)) [(0,(.row 3 l.length (l.map aA)))]]) (by kernel_rfl) (gc h6 (gc h5 (gc h4 (gc hl3.code (gc h2 (gc (bR h1) (gc (FMM.fc (ids:=[0]) h0 (by kernel_rfl)) gn)))))))
theorem bRu{l:List Int}{dl:Int}{sk dc:Lqq}{bib tm:Int}(h0:bKb l dl sk dc bib tm (-1:Int)):FMM Tp 54 [(.own 0),(.fn 189 [] [(.rp [(PV.rp (aI dl sk dc) 0)] 0),(.rp [(aA bib),(aA tm)] 0)])] [some (.row 3 l.length (l.map aA))] (.p (aH l)) [some .dead]:=by
 exact FMM.fin (k:=1) (g:=⟨[],[],[0],[]⟩) rfl Tryz.func54 rfl (o:=[.c (pI (-1:Int)) [(0,(.row 3 l.length (l.map aA)))],bT]) (l:=[_,FC Tp 129 [(.own 0),(.fn 189 [] [(.rp [(PV.rp (aI dl sk dc) 0)] 0),(.rp [(aA bib),(aA tm)] 0)])] [(0,(.row 3 l.length (l.map aA)))] 1 (pI (-1:Int)) [(0,(.row 3 l.length (l.map aA)))]]) (by kernel_rfl) (gc bEl (gc (FMM.fc (ids:=[0]) h0 (by kernel_rfl)) gn))
theorem aZb{bib tm:Int}{c:List Int}{i j:Nat}{x100:Int}{b101:Bool}{x102:Int}{c':List Int}{i' j':Nat}(h0:(j:Int)<(c.length:Int))(h1:c[j]? = some x100)(h2:aPl dl sk dc bib tm x100 b101)(h3:b101=false)(h4:c[i]? = some x102)(h5:(i*1)<(c.map aA).length)(h6:inR (((i+1):Nat):Int))(h7:inR (((j+1):Nat):Int))(ec'n:c'.length=c.length)(ec'c:c'.map aA=((c.map aA).set (i*1) (aA x100)))(ei':i'=(i+1))(ej':j'=(j+1)):aC Tp 1 nA (kG dl sk dc bib tm c.length (c.map aA) i j) .normal (kG dl sk dc bib tm c'.length (c'.map aA) i' j'):=by
 subst ei' ej';have raw:aC Tp 1 nA (kG dl sk dc bib tm c.length (c.map aA) i j) .normal (kG dl sk dc bib tm c.length ((c.map aA).set (i*1) (aA x100)) (i+1) (j+1)):=aC.fin (g:=⟨(rng [(2,2),(7,29)]),[],[],[]⟩) (o:=[bT,.x (aA x100),.c (pB b101) [],bT]) (l:=[_,_,_,_,_,FC Tp 189 [(pI x100),(.rp [(PV.rp (aI dl sk dc) 0)] 0),(.rp [(aA bib),(aA tm)] 0)] [] 1 (pB b101) [],_,_,_]) (by kernel_rfl) (gc h7 (gc h6 (gc h5 (gc (cU (i:=(i:Int)) (kQ3 _) h4) (gc (cQ h3) (gc (FV.fc (h2 _) rfl) (gc (atm aA h1) (gc (cU (i:=(j:Int)) (kQ3 _) h1) (gc (bD h0) gn)))))))))
 exact raw.cast (by rw [ec'n,ec'c])
theorem aZc{bib tm:Int}{c:List Int}{i j:Nat}{x100:Int}{b101:Bool}{j':Nat}(h0:(j:Int)<(c.length:Int))(h1:c[j]? = some x100)(h2:aPl dl sk dc bib tm x100 b101)(h3:b101=true)(h4:inR (((j+1):Nat):Int))(ej':j'=(j+1)):aC Tp 1 nA (kG dl sk dc bib tm c.length (c.map aA) i j) .normal (kG dl sk dc bib tm c.length (c.map aA) i j'):=by
 subst ej';exact aC.fin (g:=⟨(rng [(2,2),(7,29)]),[],[],[]⟩) (o:=[bT,.x (aA x100),.c (pB b101) [],bF]) (l:=[_,_,FC Tp 189 [(pI x100),(.rp [(PV.rp (aI dl sk dc) 0)] 0),(.rp [(aA bib),(aA tm)] 0)] [] 1 (pB b101) [],_,_,_]) (by kernel_rfl) (gc h4 (gc (aX h3) (gc (FV.fc (h2 _) rfl) (gc (atm aA h1) (gc (cU (i:=(j:Int)) (kQ3 _) h1) (gc (bD h0) gn))))))
theorem aZd{bib tm:Int}{c:List Int}{i j:Nat}(h0:(c.length:Int)≤(j:Int)):aC Tp 1 nA (kG dl sk dc bib tm c.length (c.map aA) i j) (.exit 0) (kG dl sk dc bib tm c.length (c.map aA) i j):=by
 exact aC.fin (g:=⟨(rng [(2,2),(7,29)]),[],[],[]⟩) (o:=[bF]) (l:=[_]) (by kernel_rfl) (gc (bU h0) gn)
def fQ(l:List Int)(m:Int)(i:Nat):St:=⟨fr 19 [(0,(.own 0)),(1,(.fn 133 [] [(.rp [(aA m)] 0)])),(7,(pI (l.length:Int))),(8,(pI (i:Int)))],[some (.row 3 l.length (l.map aA))]⟩
theorem bKc{l:List Int}{m:Int}{i'0:Nat}(hl0:aM Tp 1 mZ (fQ l m 0) (.exit 0) (fQ l m i'0)):FMM Tp 129 [(.own 0),(.fn 133 [] [(.rp [(aA m)] 0)])] [some (.row 3 l.length (l.map aA))] (pI (-1:Int)) [some (.row 3 l.length (l.map aA))]:=by
 exact FMM.fin (k:=1) (g:=⟨[],[],[],[]⟩) rfl Tryz.func129 rfl (o:=[.k 6 ⟨(rng [(2,5),(9,10)]),[],[],[]⟩ (.exit 0) (fQ l m i'0)]) (l:=[_]) (by kernel_rfl) (gc hl0.code gn)
theorem bKd{l:List Int}{m:Int}{i'0:Nat}(hl0:aM Tp 1 mZ (fQ l m 0) .ret (cH (fQ l m i'0) [(4,(pI (i'0:Int)))])):FMM Tp 129 [(.own 0),(.fn 133 [] [(.rp [(aA m)] 0)])] [some (.row 3 l.length (l.map aA))] (pI (i'0:Int)) [some (.row 3 l.length (l.map aA))]:=by
 exact FMM.fin (k:=1) (g:=⟨[],[],[],[]⟩) rfl Tryz.func129 rfl (o:=[.k 6 ⟨(rng [(2,5),(9,10)]),[],[],[]⟩ .ret (cH (fQ l m i'0) [(4,(pI (i'0:Int)))])]) (l:=[_]) (by kernel_rfl) (gc hl0.code gn)
theorem aPp{l:List Int}{m:Int}{i:Nat}{x100:Int}(h0:(i:Int)<(l.length:Int))(h1:l[i]? = some x100)(h2:(x100 == m)=true):aC Tp 1 mZ (fQ l m i) .ret (cH (fQ l m i) [(4,(pI (i:Int)))]):=by
 exact aC.fin (g:=⟨(rng [(2,2),(5,2),(9,10)]),[],[],[]⟩) (o:=[bT,.x (aA x100),.c (pB (x100 == m)) [],bT]) (l:=[_,_,_,_,_]) (by kernel_rfl) (gc h2 (gc (fk 1 (aHp x100 m) rfl) (gc (atm aA h1) (gc (cU (i:=(i:Int)) (kQ3 _) h1) (gc (bD h0) gn)))))
theorem aPq{l:List Int}{m:Int}{i:Nat}{x100:Int}{i':Nat}(h0:(i:Int)<(l.length:Int))(h1:l[i]? = some x100)(h2:(x100 == m)=false)(h3:inR (((i+1):Nat):Int))(ei':i'=(i+1)):aC Tp 1 mZ (fQ l m i) .normal (fQ l m i'):=by
 subst ei';exact aC.fin (g:=⟨(rng [(2,5),(9,10)]),[],[],[]⟩) (o:=[bT,.x (aA x100),.c (pB (x100 == m)) [],bF]) (l:=[_,_,_,_,_,_]) (by kernel_rfl) (gc h3 (gc h2 (gc (fk 1 (aHp x100 m) rfl) (gc (atm aA h1) (gc (cU (i:=(i:Int)) (kQ3 _) h1) (gc (bD h0) gn))))))
theorem aPr{l:List Int}{m:Int}{i:Nat}(h0:(l.length:Int)≤(i:Int)):aC Tp 1 mZ (fQ l m i) (.exit 0) (fQ l m i):=by
 exact aC.fin (g:=⟨(rng [(2,5),(9,10)]),[],[],[]⟩) (o:=[bF]) (l:=[_]) (by kernel_rfl) (gc (bU h0) gn)
abbrev bKe(l:List Int)(m:Int)(i:Int):Prop:=FMM Tp 129 [.own 0,(.fn 133 [] [(.rp [(aA m)] 0)])] [some (.row 3 l.length (l.map aA))] (pI i) [some (.row 3 l.length (l.map aA))]
def kH(m:Int)(cn:Nat)(cc:List PV)(i:Nat)(j:Nat):St:=⟨fr 42 [(0,(.own 0)),(1,(.fn 133 [] [(.rp [(aA m)] 0)])),(4,(.p bX)),(5,(pI (i:Int))),(6,(pI (j:Int)))],[some (.row 3 cn cc)]⟩
theorem bRv{l:List Int}{m:Int}{i0:Nat}{c'1:List Int}{i'2 j'3:Nat}{r0c:List PV}(h0:bKe l m (i0:Int))(h1:(i0:Int)≠(-1:Int))(h2:inR (((i0+1):Nat):Int))(hl3:aM Tp 1 nA (kH m l.length (l.map aA) i0 (i0+1)) (.exit 0) (kH m c'1.length (c'1.map aA) i'2 j'3))(h4:0≤(i'2:Int)∧(i'2:Int)≤(c'1.length:Int)∧(c'1.length:Int)≤(c'1.length:Int))(h5:(i'2*1)+(c'1.length-i'2)≤(c'1.map aA).length)(h6:0≤(0:Int)∧(0:Int)≤(i'2:Int)∧(i'2:Int)≤(c'1.length:Int))(er0c:r0c=((((c'1.map aA).take (i'2*1)++List.replicate (c'1.length-i'2) (PV.v (.int .i64 0))++(c'1.map aA).drop ((i'2*1)+(List.replicate (c'1.length-i'2) (PV.v (.int .i64 0))).length)).drop 0).take (i'2*(((c'1.map aA).take (i'2*1)++List.replicate (c'1.length-i'2) (PV.v (.int .i64 0))++(c'1.map aA).drop ((i'2*1)+(List.replicate (c'1.length-i'2) (PV.v (.int .i64 0))).length)).length / c'1.length)))):FMM Tp 54 [(.own 0),(.fn 133 [] [(.rp [(aA m)] 0)])] [some (.row 3 l.length (l.map aA))] (.p (.sl i'2 r0c)) [some .dead]:=by
 subst er0c;exact FMM.fin (k:=1) (g:=⟨[],[],[0],[]⟩) rfl Tryz.func54 rfl (o:=[.c (pI (i0:Int)) [(0,(.row 3 l.length (l.map aA)))],bF,.k 4 ⟨(rng [(2,2),(7,29)]),[],[],[]⟩ (.exit 0) (kH m c'1.length (c'1.map aA) i'2 j'3)]) (l:=[_,_,_,_,_,_,FC Tp 129 [(.own 0),(.fn 133 [] [(.rp [(aA m)] 0)])] [(0,(.row 3 l.length (l.map aA)))] 1 (pI (i0:Int)) [(0,(.row 3 l.length (l.map aA)))]]) (by kernel_rfl) (gc h6 (gc h5 (gc h4 (gc hl3.code (gc h2 (gc (bR h1) (gc (FMM.fc (ids:=[0]) h0 (by kernel_rfl)) gn)))))))
theorem bRw{l:List Int}{m:Int}(h0:bKe l m (-1:Int)):FMM Tp 54 [(.own 0),(.fn 133 [] [(.rp [(aA m)] 0)])] [some (.row 3 l.length (l.map aA))] (.p (aH l)) [some .dead]:=by
 exact FMM.fin (k:=1) (g:=⟨[],[],[0],[]⟩) rfl Tryz.func54 rfl (o:=[.c (pI (-1:Int)) [(0,(.row 3 l.length (l.map aA)))],bT]) (l:=[_,FC Tp 129 [(.own 0),(.fn 133 [] [(.rp [(aA m)] 0)])] [(0,(.row 3 l.length (l.map aA)))] 1 (pI (-1:Int)) [(0,(.row 3 l.length (l.map aA)))]]) (by kernel_rfl) (gc bEl (gc (FMM.fc (ids:=[0]) h0 (by kernel_rfl)) gn))
theorem aZe{m:Int}{c:List Int}{i j:Nat}{x100 x101:Int}{c':List Int}{i' j':Nat}(h0:(j:Int)<(c.length:Int))(h1:c[j]? = some x100)(h2:(x100 == m)=false)(h3:c[i]? = some x101)(h4:(i*1)<(c.map aA).length)(h5:inR (((i+1):Nat):Int))(h6:inR (((j+1):Nat):Int))(ec'n:c'.length=c.length)(ec'c:c'.map aA=((c.map aA).set (i*1) (aA x100)))(ei':i'=(i+1))(ej':j'=(j+1)):aC Tp 1 nA (kH m c.length (c.map aA) i j) .normal (kH m c'.length (c'.map aA) i' j'):=by
 subst ei' ej';have raw:aC Tp 1 nA (kH m c.length (c.map aA) i j) .normal (kH m c.length ((c.map aA).set (i*1) (aA x100)) (i+1) (j+1)):=aC.fin (g:=⟨(rng [(2,2),(7,29)]),[],[],[]⟩) (o:=[bT,.x (aA x100),.c (pB (x100 == m)) [],bT]) (l:=[_,_,_,_,_,_,_,_,_]) (by kernel_rfl) (gc h6 (gc h5 (gc h4 (gc (cU (i:=(i:Int)) (kQ3 _) h3) (gc (cQ h2) (gc (fk 1 (aHp x100 m) rfl) (gc (atm aA h1) (gc (cU (i:=(j:Int)) (kQ3 _) h1) (gc (bD h0) gn)))))))))
 exact raw.cast (by rw [ec'n,ec'c])
theorem aZf{m:Int}{c:List Int}{i j:Nat}{x100:Int}{j':Nat}(h0:(j:Int)<(c.length:Int))(h1:c[j]? = some x100)(h2:(x100 == m)=true)(h3:inR (((j+1):Nat):Int))(ej':j'=(j+1)):aC Tp 1 nA (kH m c.length (c.map aA) i j) .normal (kH m c.length (c.map aA) i j'):=by
 subst ej';exact aC.fin (g:=⟨(rng [(2,2),(7,29)]),[],[],[]⟩) (o:=[bT,.x (aA x100),.c (pB (x100 == m)) [],bF]) (l:=[_,_,_,_,_,_]) (by kernel_rfl) (gc h3 (gc (aX h2) (gc (fk 1 (aHp x100 m) rfl) (gc (atm aA h1) (gc (cU (i:=(j:Int)) (kQ3 _) h1) (gc (bD h0) gn))))))
theorem aZg{m:Int}{c:List Int}{i j:Nat}(h0:(c.length:Int)≤(j:Int)):aC Tp 1 nA (kH m c.length (c.map aA) i j) (.exit 0) (kH m c.length (c.map aA) i j):=by
 exact aC.fin (g:=⟨(rng [(2,2),(7,29)]),[],[],[]⟩) (o:=[bF]) (l:=[_]) (by kernel_rfl) (gc (bU h0) gn)
end
section
structure yJ (p:Int→Bool) (l:List Int) (j:Nat) (x:List Int × Nat):Prop where
 len:x.1.length=l.length
 le:x.2<j
 kept:x.1.take x.2=(l.take j).filter fun n => !p n
 rest:x.1.drop j=l.drop j
theorem yJ.skip{p:Int→Bool}{l:List Int}{j:Nat}{x:List Int × Nat}(h:yJ p l j x)(hj:j<l.length){n:Int}(hn:x.1[j]? = some n)(hp:p n=true):yJ p l (j+1) x:=by
 have hl:l[j]? = some n:=by
  have:=congrArg (·[0]?) h.rest
  simp only [List.getElem?_drop,Nat.add_zero] at this
  rw [← this];exact hn
 refine ⟨h.len,by have:=h.le;omega,?_,?_⟩
 ·rw [h.kept,List.take_add_one,hl]
  simp [oJ,hp]
 ·rw [← List.drop_drop,h.rest,List.drop_drop]
theorem yJ.keep{p:Int→Bool}{l:List Int}{j:Nat}{x:List Int × Nat}(h:yJ p l j x)(hj:j<l.length){n:Int}(hn:x.1[j]? = some n)(hp:p n=false):yJ p l (j+1) (x.1.set x.2 n,x.2+1):=by
 have hl:l[j]? = some n:=by
  have:=congrArg (·[0]?) h.rest
  simp only [List.getElem?_drop,Nat.add_zero] at this
  rw [← this];exact hn
 have hle:=h.le;have hlen:=h.len;refine ⟨by simp [h.len],by simpa using hle,?_,?_⟩
 ·show (x.1.set x.2 n).take (x.2+1)=_
  rw [List.take_add_one,List.take_set_of_le (dR _),h.kept,bBz (by omega),List.take_add_one,hl]
  simp [oJ,hp]
 ·show (x.1.set x.2 n).drop (j+1)=_
  rw [List.drop_set_of_lt (by omega),← List.drop_drop,h.rest,List.drop_drop]
theorem yJ.start{p:Int→Bool}{l:List Int}{i:Nat}{n:Int}(hi:l[i]? = some n)(hp:p n=true)(hb:∀ m∈l.take i,p m=false):yJ p l (i+1) (l,i):=by
 refine ⟨rfl,Nat.lt_succ_self _,?_,rfl⟩;show l.take i=_;rw [List.take_add_one,hi];simp only [oJ];rw [List.filter_eq_self.2 fun m hm=>by simp [hb m hm]]
 simp [hp]
theorem xZ{p:Int→Bool}{l:List Int}{i:Nat}(h:l.findIdx? p=some i):∀ m∈l.take i,p m=false:=fun m hm=>by
 obtain ⟨hi,h1,h2⟩:=List.findIdx?_eq_some_iff_getElem.1 h;obtain ⟨j,hj,rfl⟩:=List.getElem_of_mem hm;rw [List.getElem_take];rw [lC] at hj
 have:=h2 j (by omega)
 simpa using this

theorem bJx{l:List Int}{dl:Int}{sk dc:Lqq}{bib tm:Int}(hl:l.length≤1000){p:Int→Bool}(hp:∀ n∈l,aPl dl sk dc bib tm n (p n)) :
  (∃ i n,l[i]? = some n∧l.findIdx? p=some i∧p n=true∧bKb l dl sk dc bib tm (i:Int))∨(l.any p=false∧bKb l dl sk dc bib tm (-1)):=by
 rcases aM.find (P:=Tp) (k:=1) (b:=(sub (cd Tryz.f129) [1,0,1,0,0])) (fun i=>fP l dl sk dc bib tm i) (fun i _=>cH (fP l dl sk dc bib tm i) [(4,.p (aA (i:Int)))]) (fP l dl sk dc bib tm l.length) .ret (.exit 0) (by simp) (by simp) p l
  (fun i x hx hq=>aPn (by have:=bE hx;omega) hx (hp x (kQ5 hx)) hq (aP (by have:=bE hx;omega)) rfl)
  (fun i x hx hq=>aPm (by have:=bE hx;omega) hx (hp x (kQ5 hx)) hq)
  (aPo (by omega)) with ⟨i,x,h1,h2,h3,h4⟩ | ⟨h1,h2,h3⟩
 ·exact .inl ⟨i,x,h1,h2,h3,bKa h4⟩
 ·exact .inr ⟨h2,bJz h3⟩
theorem bRq{l:List Int}{dl:Int}{sk dc:Lqq}{bib tm:Int}(hl:l.length≤1000){p:Int→Bool}(hp:∀ n∈l,aPl dl sk dc bib tm n (p n)) :
  FMM Tp 54 [.own 0,.fn 189 [] [.rp [bEn dl sk dc] 0,.rp [aA bib,aA tm] 0]] [some (.row 3 l.length (l.map aA))] (.p (aH (l.filter fun n => !p n))) [some .dead]:=by
 rcases bJx hl hp with ⟨i,n,h1,h2,h3,h4⟩ | ⟨h1,h2⟩
 ·have hi:=bE h1
  obtain ⟨d,hm⟩:∃ d,i+1+d=l.length:=⟨l.length-(i+1),by omega⟩
  obtain ⟨⟨c,k⟩,hI,hL⟩:=aM.ex (P:=Tp) (k:=1) (b:=(sub (cd Tryz.f54) [1,1,1,0,1,0,0])) (e := .exit 0) (fun j (x:List Int × Nat)=>kG dl sk dc bib tm x.1.length (x.1.map aA) x.2 (i+1+j)) (fun x=>kG dl sk dc bib tm x.1.length (x.1.map aA) x.2 l.length) (fun j x=>yJ p l (i+1+j) x∧∀ n∈x.1,n∈l) (by simp) d
   (fun j x hj hx=>by
    obtain ⟨hI,hs⟩:=hx;have hlt:i+1+j<x.1.length:=by rw [hI.len];omega
    have hle:=hI.le;have hlen:=hI.len;obtain ⟨y,hy⟩:∃ y,x.1[i+1+j]? = some y:=⟨_,kQ0 hlt⟩;have hyl:=hs y (kQ5 hy);cases hq:p y with
    | true=>exact ⟨x,⟨hI.skip (by omega) hy hq,hs⟩,aZc (by omega) hy (hp y hyl) hq (aP (by omega)) rfl⟩
    | false =>
     obtain ⟨z,hz⟩:∃ z,x.1[x.2]? = some z:=⟨_,kQ0 (by omega)⟩
     refine ⟨_,⟨hI.keep (by omega) hy hq,fun n hn => ?_⟩,aZb (c:=x.1) (c':=x.1.set x.2 y) (by omega) hy (hp y hyl) hq hz (by rw [eP];omega) (aP (by omega)) (aP (by omega)) (by simp) (by rw [List.map_set,Nat.mul_one]) rfl rfl⟩
     rcases List.mem_or_eq_of_mem_set hn with h | rfl
     ·exact hs n h
     ·exact hyl)
   (fun x hx=>by
    have:=aZd (dl:=dl) (sk:=sk) (dc:=dc) (bib:=bib) (tm:=tm) (c:=x.1) (i:=x.2) (j:=l.length) (by rw [hx.1.len];omega)
    rw [show i+1+d=l.length from hm];exact this)
   (acc:=(l,i)) ⟨yJ.start h1 h3 (xZ h2),fun n h=>h⟩
  obtain ⟨hI,_⟩:=hI;have hlen:=hI.len;have hle:=hI.le;have hk:=hI.kept;simp only [hm,List.take_length] at hlen hle hk
  have fin:=bRt (l:=l) (c'1:=c) (i'2:=k) (j'3:=l.length) (r0c:=(c.take k).map aA) h4 (by omega) (aP (by omega)) hL ⟨by omega,by omega,by omega⟩ (by rw [eP];omega) ⟨by omega,by omega,by omega⟩ (by
   rw [List.drop_zero,Nat.mul_one,List.length_replicate];have hL2:(((c.map aA).take k)++List.replicate (c.length-k) (PV.v (.int .i64 0))++(c.map aA).drop (k+(c.length-k))).length=c.length:=by
    simp only [lO,lC,eP,List.length_replicate,bCb];omega
   rw [hL2,Nat.div_self (by omega),Nat.mul_one,List.append_assoc,List.take_append_of_le_length (by rw [lC,eP];omega),List.take_take,Nat.min_self,List.map_take])
  rw [← hk];have e:aH (c.take k) = .sl k ((c.take k).map aA):=by
   show PV.sl (c.take k).length _=_;rw [lC,Nat.min_eq_left (by omega)]
  rw [e];exact fin
 ·have:(l.filter fun n => !p n)=l:=List.filter_eq_self.2 fun n hn=>by
   have:=List.any_eq_false.1 h1 n hn;simpa using this
  rw [this];exact bRu h2

theorem bJy{l:List Int}{m:Int}(hl:l.length≤1000){p:Int→Bool}(hp:∀ n∈l,p n=(n == m)) :
  (∃ i n,l[i]? = some n∧l.findIdx? p=some i∧p n=true∧bKe l m (i:Int))∨(l.any p=false∧bKe l m (-1)):=by
 rcases aM.find (P:=Tp) (k:=1) (b:=(sub (cd Tryz.f129) [1,0,1,0,0])) (fun i=>fQ l m i) (fun i _=>cH (fQ l m i) [(4,.p (aA (i:Int)))]) (fQ l m l.length) .ret (.exit 0) (by simp) (by simp) p l
  (fun i x hx hq=>aPq (by have:=bE hx;omega) hx (by rw [← hp x (kQ5 hx)];exact hq) (aP (by have:=bE hx;omega)) rfl)
  (fun i x hx hq=>aPp (by have:=bE hx;omega) hx (by rw [← hp x (kQ5 hx)];exact hq))
  (aPr (by omega)) with ⟨i,x,h1,h2,h3,h4⟩ | ⟨h1,h2,h3⟩
 ·exact .inl ⟨i,x,h1,h2,h3,bKd h4⟩
 ·exact .inr ⟨h2,bKc h3⟩
theorem bEk{l:List Int}{m:Int}(hl:l.length≤1000){p:Int→Bool}(hp:∀ n∈l,p n=(n == m)) :
  FMM Tp 54 [.own 0,.fn 133 [] [.rp [aA m] 0]] [some (.row 3 l.length (l.map aA))] (.p (aH (l.filter fun n => !p n))) [some .dead]:=by
 rcases bJy hl hp with ⟨i,n,h1,h2,h3,h4⟩ | ⟨h1,h2⟩
 ·have hi:=bE h1
  obtain ⟨d,hm⟩:∃ d,i+1+d=l.length:=⟨l.length-(i+1),by omega⟩
  obtain ⟨⟨c,k⟩,hI,hL⟩:=aM.ex (P:=Tp) (k:=1) (b:=(sub (cd Tryz.f54) [1,1,1,0,1,0,0])) (e := .exit 0) (fun j (x:List Int × Nat)=>kH m x.1.length (x.1.map aA) x.2 (i+1+j)) (fun x=>kH m x.1.length (x.1.map aA) x.2 l.length) (fun j x=>yJ p l (i+1+j) x∧∀ n∈x.1,n∈l) (by simp) d
   (fun j x hj hx=>by
    obtain ⟨hI,hs⟩:=hx;have hlt:i+1+j<x.1.length:=by rw [hI.len];omega
    have hle:=hI.le;have hlen:=hI.len;obtain ⟨y,hy⟩:∃ y,x.1[i+1+j]? = some y:=⟨_,kQ0 hlt⟩;have hyl:=hs y (kQ5 hy);cases hq:p y with
    | true=>exact ⟨x,⟨hI.skip (by omega) hy hq,hs⟩,aZf (by omega) hy (by rw [← hp y hyl];exact hq) (aP (by omega)) rfl⟩
    | false =>
     obtain ⟨z,hz⟩:∃ z,x.1[x.2]? = some z:=⟨_,kQ0 (by omega)⟩
     refine ⟨_,⟨hI.keep (by omega) hy hq,fun n hn => ?_⟩,aZe (c:=x.1) (c':=x.1.set x.2 y) (by omega) hy (by rw [← hp y hyl];exact hq) hz (by rw [eP];omega) (aP (by omega)) (aP (by omega)) (by simp) (by rw [List.map_set,Nat.mul_one]) rfl rfl⟩
     rcases List.mem_or_eq_of_mem_set hn with h | rfl
     ·exact hs n h
     ·exact hyl)
   (fun x hx=>by
    have:=aZg (m:=m) (c:=x.1) (i:=x.2) (j:=l.length) (by rw [hx.1.len];omega)
    rw [show i+1+d=l.length from hm];exact this)
   (acc:=(l,i)) ⟨yJ.start h1 h3 (xZ h2),fun n h=>h⟩
  obtain ⟨hI,_⟩:=hI;have hlen:=hI.len;have hle:=hI.le;have hk:=hI.kept;simp only [hm,List.take_length] at hlen hle hk
  have fin:=bRv (l:=l) (c'1:=c) (i'2:=k) (j'3:=l.length) (r0c:=(c.take k).map aA) h4 (by omega) (aP (by omega)) hL ⟨by omega,by omega,by omega⟩ (by rw [eP];omega) ⟨by omega,by omega,by omega⟩ (by
   rw [List.drop_zero,Nat.mul_one,List.length_replicate];have hL2:(((c.map aA).take k)++List.replicate (c.length-k) (PV.v (.int .i64 0))++(c.map aA).drop (k+(c.length-k))).length=c.length:=by
    simp only [lO,lC,eP,List.length_replicate,bCb];omega
   rw [hL2,Nat.div_self (by omega),Nat.mul_one,List.append_assoc,List.take_append_of_le_length (by rw [lC,eP];omega),List.take_take,Nat.min_self,List.map_take])
  rw [← hk];have e:aH (c.take k) = .sl k ((c.take k).map aA):=by
   show PV.sl (c.take k).length _=_;rw [lC,Nat.min_eq_left (by omega)]
  rw [e];exact fin
 ·have:(l.filter fun n => !p n)=l:=List.filter_eq_self.2 fun n hn=>by
   have:=List.any_eq_false.1 h1 n hn;simpa using this
  rw [this];exact bRw h2
end
section
open Go.RowKit Go.Lib Go.Shelf
theorem bRo{n:Nat}{x:PV}{r:List PV}{r0n:Nat}{r0c:List PV}(h0:(x::r).length=n*1∧0+n≤1000000)(er0n:r0n=(0+n))(er0c:r0c=(x::r)){base:Nat}:FV Tp 55 [(.p (.sl n (x::r)))] base (.own base) [(base,(.row 3 r0n r0c))]:=by
 subst er0n er0c;exact FV.fin Tryz.func55 rfl (o:=[]) (l:=[_]) (by kernel_rfl) (gc h0 gn)
set_option maxHeartbeats 1000000 in
theorem bJw(n c:Nat)(w:World):Calls Tp 55 #[.slice none n c] w fun e w'=>e = .returned (.slice none 0 0)∧w'=w:=by
 have q33:∀ (w:World) (a:Option Addr) (n c n' c':Nat),(binOp .eql 33 (.slice a n c) (.slice none n' c')).run Tp w = .ok (.bool a.isNone) w:=fun w a n c n' c'=>Lib.run_eql_slice_nil w _ _ a n c n' c' Tryz.underlying33
 go_enter Tryz.func55,Tryz.ntmps55
 go_wp2
 go_ret
 exact ⟨rfl,rfl⟩
theorem inf3:(Tryz.prog.info? 3).map (fun i=>(i.zero,i.size,i.bytes))=some (some (.int .i64 0),1,8):=by kernel_rfl
set_option maxHeartbeats 2000000 in
theorem bEj(a:Addr)(c:Nat)(w:World):Calls Tp 55 #[.slice (some a) 0 c] w fun e w'=>∃ v',e = .returned v'∧w'.ownsRow w.heap.size 3 1 v' 0 []∧Below w.heap.size w w':=by
 obtain ⟨i0,hi,hz0,hz1,hz2⟩:=info_parts inf3;have q33:∀ (w:World) (a:Option Addr) (n c n' c':Nat),(binOp .eql 33 (.slice a n c) (.slice none n' c')).run Tp w = .ok (.bool a.isNone) w:=fun w a n c n' c'=>Lib.run_eql_slice_nil w _ _ a n c n' c' Tryz.underlying33
 go_enter Tryz.func55,Tryz.ntmps55
 go_wp2_with (at_builtin;refine wpList_append_own _ rfl _ _ 33 rfl w.heap.size 3 i0 (.int .i64 0) 1 8 Tryz.underlying33 hi hz0 hz1 hz2 rfl (by decide) _ _ _ rfl (World.ownsRow_made w #[] 0 (dR _) (Nat.zero_le _) rfl) a 0 c [] rfl rfl (by intro j u hj;simp at hj) (by intro u hu;cases hu) (by unfold maxLen;omega) (by omega) (by simp) ?_)
 intro v' w1 hown hgrow hnil
 go_wp2
 go_ret
 refine ⟨v',rfl,by simpa using hown,?_⟩
 exact ((Below.refl _ w).alloc (dR _) _).grown hgrow (by simp) (by intro k hk;simp [Value.ownBlock] at hk;omega)
theorem aZa{base:Nat}:FV Tp 55 [.p (.sl 0 [])] base (.own base) [(base,.row 3 0 [])]:=aVq (rL (show (Tryz.prog.info? 3).map (fun i=>i.size)=some 1 by kernel_rfl)) fun p c w=>by
 cases p with
 | none =>
  refine (bJw 0 c w).mono ?_;rintro e w' ⟨rfl,rfl⟩;exact ⟨_,rfl,World.ownsRow_nil _ _ _ _,Below.refl _ _⟩
 | some a=>exact bEj a c w
theorem bRp(l:List Int)(hl:l.length≤1000){base:Nat}:FV Tp 55 [.p (aH l)] base (.own base) [(base,.row 3 l.length (l.map aA))]:=by
 cases l with
 | nil=>exact aZa
 | cons x l=>exact bRo (n:=(x::l).length) (x:=aA x) (r:=l.map aA) ⟨by simp,by simp at hl ⊢;omega⟩ (by simp) rfl
end
section
variable {dl:Int}{sk dc:Lqq}

theorem aHm:0≤(1:Int)∧(1:Int)<2:=by first | decide | simp
theorem aHn:0≤(0:Int)∧(0:Int)<2:=by first | decide | simp
abbrev bUl(l:List Int)(dl:Int)(sk dc:Lqq)(bib tm:Int)(o:List Int):Prop:=FMM Tp 54 [.own 0,.fn 189 [] [.rp [bEn dl sk dc] 0,.rp [aA bib,aA tm] 0]] [some (.row 3 l.length (l.map aA))] (.p (aH o)) [some .dead]
def chE(x:Int × Bool × List Int):List PV:=[aA x.1,blP x.2.1,aH x.2.2]
def lU(dl:Int)(sk:Lqq)(dc:Lqq)(aln:Nat)(alc:List PV)(i:Nat):St:=⟨fr 77 [(1,(.rp [(PV.rp (aI dl sk dc) 0)] 0)),(2,(.p bX)),(3,(pI 0)),(4,(.p (aH (aS dl dc)))),(5,(.own 0)),(22,(.p (fS sk))),(23,(pI (sk.length:Int))),(24,(pI (i:Int)))],[some (.row 195 aln alc)]⟩
theorem bRn{al'0n:Nat}{al'0c:List PV}{i'1:Nat}(h0:cE dc)(h1:(((aS dl dc).length:Nat):Int)≤8)(hl2:aM Tp 0 (sub (cd Tryz.f161) [1,1,1,1,0,1,0,0]) (lU dl sk dc 0 [] 0) (.exit 0) (lU dl sk dc al'0n al'0c i'1)){base:Nat}:FV Tp 161 [(.rp (aI dl sk dc) 0)] base (.tup [(.own base),(pI 0)]) [(base,(.row 195 al'0n al'0c))]:=by
 exact FV.fin Tryz.func161 rfl (o:=[.g 3 ⟨[],[],[0],[]⟩,.x (PV.rp (aI dl sk dc) 0),.c (.own 0) [(0,(.row 3 ((aS dl dc).length) ((aS dl dc).map aA)))],.g 2 ⟨[],[],[0],[]⟩,bF,.x (PV.rp (aI dl sk dc) 0),.x (fS sk),.k 1 ⟨(rng [(0,1),(6,16),(25,51)]),[0],[],[(5,195)]⟩ (.exit 0) (lU dl sk dc al'0n al'0c i'1)]) (l:=[_,(aI dl sk dc)[1]? = some (fS sk),[(PV.rp (aI dl sk dc) 0)][0]? = some (PV.rp (aI dl sk dc) 0),_,_,[(PV.rp (aI dl sk dc) 0)][0]? = some (PV.rp (aI dl sk dc) 0)]) (by kernel_rfl) (gc hl2.code (gc rfl (gc rfl (gc (bU h1) (gc (fk 0 (qL (dl:=dl) (sk:=sk) (dc:=dc) h0) rfl) (gc rfl gn))))))
def wO(dl:Int)(sk:Lqq)(dc:Lqq)(aln:Nat)(alc:List PV)(i:Nat)(y100:Int)(y101:Int)(o102:List Int)(chn:Nat)(chc:List PV)(mn:Int)(mx:Int):St:=⟨fr 77 [(1,(.rp [(PV.rp (aI dl sk dc) 0)] 0)),(2,(.p bX)),(3,(pI 0)),(4,(.p (aH (aS dl dc)))),(5,(.own 0)),(7,(.rp [(aA y100),(aA y101)] 0)),(8,(.p (aH o102))),(9,(.ptr 2 0)),(22,(.p (fS sk))),(23,(pI (sk.length:Int))),(24,(pI (i:Int))),(25,(pB (decide ((i:Int)<(sk.length:Int))))),(26,(.rp (sk.flatten.map aA) (i*2))),(27,(.p (.agg [(aA y100),(aA y101)]))),(28,(.p (aH (aS dl dc)))),(29,(.own 1)),(30,(.fn 189 [] [(.rp [(PV.rp (aI dl sk dc) 0)] 0),(.rp [(aA y100),(aA y101)] 0)])),(31,(.p (aH o102))),(32,(.p (.agg [(aA 1099511627776),(aA 0)]))),(33,(.p (.agg [bX,(aA 1099511627776),(aA 0)]))),(34,(.p (aH o102))),(35,(.fn 182 [] [(.rp [(aH o102)] 0)]))],[some (.row 195 aln alc),some .dead,some (.box 195 [(.own 3),(pI mn),(pI mx)]),some (.row 197 chn chc)]⟩
def aHo(dl:Int)(sk:Lqq)(dc:Lqq)(aln:Nat)(alc:List PV)(i:Nat)(y100:Int)(y101:Int)(o102:List Int):St:=⟨fr 77 [(1,(.rp [(PV.rp (aI dl sk dc) 0)] 0)),(2,(.p bX)),(3,(pI 0)),(4,(.p (aH (aS dl dc)))),(5,(.own 0)),(7,(.rp [(aA y100),(aA y101)] 0)),(8,(.p (aH o102))),(9,(.ptr 2 0)),(22,(.p (fS sk))),(23,(pI (sk.length:Int))),(24,(pI (i:Int))),(25,(pB (decide ((i:Int)<(sk.length:Int))))),(26,(.rp (sk.flatten.map aA) (i*2))),(27,(.p (.agg [(aA y100),(aA y101)]))),(28,(.p (aH (aS dl dc)))),(29,(.own 1)),(30,(.fn 189 [] [(.rp [(PV.rp (aI dl sk dc) 0)] 0),(.rp [(aA y100),(aA y101)] 0)])),(31,(.p (aH o102))),(32,(.p (.agg [(aA 1099511627776),(aA 0)]))),(33,(.p (.agg [bX,(aA 1099511627776),(aA 0)]))),(34,(.p (aH o102))),(35,(.fn 182 [] [(.rp [(aH o102)] 0)]))],[some (.row 195 aln alc),some .dead,some (.box 195 [(.p bX),(pI 1099511627776),(pI 0)])]⟩
theorem aYw{aln:Nat}{alc:List PV}{i:Nat}{y100 y101:Int}{o102:List Int}{ch'103n:Nat}{ch'103c:List PV}{mn'104 mx'105:Int}{al'n:Nat}{al'c:List PV}{i':Nat}(h0:(i:Int)<(sk.length:Int))(h1:sk[i]? = some [y100,y101])(h2:uni 2 sk)(h3:(aS dl dc).length≤1000)(h4:bUl (aS dl dc) dl sk dc y100 y101 o102)(hl5:aC Tp 0 (sub (cd Tryz.f161) [1,1,1,1,0,1,0,0,1,1,0,0,1,1,1,0,1,0]) (aHo dl sk dc aln alc i y100 y101 o102) .normal (wO dl sk dc aln alc i y100 y101 o102 ch'103n ch'103c mn'104 mx'105))(h6:[(.sl ch'103n ch'103c),(aA mn'104),(aA mx'105)].length=1*3∧aln+1≤1000000)(h7:inR (((i+1):Nat):Int))(eal'n:al'n=(aln+1))(eal'c:al'c=(alc++[(.sl ch'103n ch'103c),(aA mn'104),(aA mx'105)]))(ei':i'=(i+1)):aC Tp 0 (sub (cd Tryz.f161) [1,1,1,1,0,1,0,0]) (lU dl sk dc aln alc i) .normal (lU dl sk dc al'n al'c i'):=by
 subst eal'n eal'c ei';exact aC.fin (g:=⟨(rng [(0,1),(6,16),(25,51)]),[3],[],[]⟩) (o:=[bT,.x (.agg [(aA y100),(aA y101)]),.g 1 ⟨[],[0],[1],[]⟩,.c (.own 1) [(1,(.row 3 ((aS dl dc).length) ((aS dl dc).map aA)))],.c (.p (aH o102)) [(1,.dead)],.c (.fn 182 [] [(.rp [(aH o102)] 0)]) [],.k 1 ⟨(rng [(0,1),(6,1),(10,12),(36,35)]),[0,1,2],[],[]⟩ .normal (wO dl sk dc aln alc i y100 y101 o102 ch'103n ch'103c mn'104 mx'105),.g 0 ⟨[29],[0,2],[3],[]⟩]) (l:=[_,_,[(.sl ch'103n ch'103c),(aA mn'104),(aA mx'105)].length=3,aC Tp 0 (sub (cd Tryz.f161) [1,1,1,1,0,1,0,0,1,1,0,0,1,1,1,0,1,0]) (aHo dl sk dc aln alc i y100 y101 o102) .normal (wO dl sk dc aln alc i y100 y101 o102 ch'103n ch'103c mn'104 mx'105),FC Tp 132 [(.p (aH o102))] [] 3 (.fn 182 [] [(.rp [(aH o102)] 0)]) [],FC Tp 54 [(.own 1),(.fn 189 [] [(.rp [(PV.rp (aI dl sk dc) 0)] 0),(.rp [(aA y100),(aA y101)] 0)])] [(1,(.row 3 ((aS dl dc).length) ((aS dl dc).map aA)))] 2 (.p (aH o102)) [(1,.dead)],_,_,_,0≤(i:Int)∧(i:Int)<(sk.length:Int)∧(i*2)<(sk.flatten.map aA).length,_]) (by kernel_rfl) (gc h7 (gc h6 (gc (by first | decide | simp) (gc hl5 (gc (FV.fc (aPk (q:=o102)) rfl) (gc (FMM.fc (ids:=[1]) h4 (by kernel_rfl)) (gc (fk 1 (bRp (aS dl dc) h3) rfl) (gc (aV (i:=i) h2 h1) (gc (bG (i:=i) h2 h1) (gc (bZ (k:=2) (i:=(i:Int)) (by decide) h2 (kQ3 _) h1) (gc (bD h0) gn)))))))))))
theorem aYx{aln:Nat}{alc:List PV}{i:Nat}(h0:(sk.length:Int)≤(i:Int)):aC Tp 0 (sub (cd Tryz.f161) [1,1,1,1,0,1,0,0]) (lU dl sk dc aln alc i) (.exit 0) (lU dl sk dc aln alc i):=by
 exact aC.fin (g:=⟨(rng [(0,1),(6,16),(25,51)]),[0],[],[]⟩) (o:=[bF]) (l:=[_]) (by kernel_rfl) (gc (bU h0) gn)
def aPj(dl:Int)(sk:Lqq)(dc:Lqq)(aln:Nat)(alc:List PV)(i:Nat)(y100:Int)(y101:Int)(o102:List Int)(chn:Nat)(chc:List PV)(mn:Int)(mx:Int):St:=⟨fr 77 [(1,(.rp [(PV.rp (aI dl sk dc) 0)] 0)),(2,(.p bX)),(3,(pI 0)),(4,(.p (aH (aS dl dc)))),(5,(.own 0)),(7,(.rp [(aA y100),(aA y101)] 0)),(8,(.p (aH o102))),(9,(.ptr 2 0)),(22,(.p (fS sk))),(23,(pI (sk.length:Int))),(24,(pI (i:Int))),(25,(pB (decide ((i:Int)<(sk.length:Int))))),(26,(.rp (sk.flatten.map aA) (i*2))),(27,(.p (.agg [(aA y100),(aA y101)]))),(28,(.p (aH (aS dl dc)))),(30,(.fn 189 [] [(.rp [(PV.rp (aI dl sk dc) 0)] 0),(.rp [(aA y100),(aA y101)] 0)])),(31,(.p (aH o102))),(32,(.p (.agg [(aA 1099511627776),(aA 0)]))),(33,(.p (.agg [bX,(aA 1099511627776),(aA 0)]))),(34,(.p (aH o102))),(35,(.fn 182 [] [(.rp [(aH o102)] 0)]))],[some (.row 195 aln alc),some .dead,some (.box 195 [(.own 5),(pI mn),(pI mx)]),some .dead,some .dead,some (.row 197 chn chc)]⟩
theorem aYy{aln:Nat}{alc:List PV}{i:Nat}{y100 y101:Int}{o102:List Int}{chn:Nat}{chc:List PV}{mn mx:Int}{x:List Int}{n200:Int}{b201:Bool}{T202:Lqb}{ch'n:Nat}{ch'c:List PV}{mn' mx':Int}(h0:aCw dl sk dc (aH x) [y100,y101] n200 b201 ([]:Lqb) T202)(h1:b201=true)(h2:[(aA 1099511627776),(blP b201),(aH x)].length=1*3∧chn+1≤1000000)(h3:([(1099511627776:Int)]:List Int).length≤1000)(ech'n:ch'n=(chn+1))(ech'c:ch'c=(chc++[(aA 1099511627776),(blP b201),(aH x)]))(emn':mn'=(if (1099511627776:Int)<mn then (1099511627776:Int) else mn))(emx':mx'=(yH mx ([(1099511627776:Int)]:List Int))):aC Tp 5 (sub (cd Tryz.f161) [1,1,1,1,0,1,0,0,1,1,0,0,1,1,1,0,1,0,1]) (rfO (wO dl sk dc aln alc i y100 y101 o102 chn chc mn mx) 36 10 x) .normal (aPj dl sk dc aln alc i y100 y101 o102 ch'n ch'c mn' mx'):=by
 subst ech'n ech'c emn' emx'
 exact aC.fin (g:=⟨(rng [(0,1),(6,1),(10,12),(36,35)]),[13],[],[]⟩) (o:=[.g 2 ⟨[29],[],[4],[]⟩,.x (PV.rp (aI dl sk dc) 0),.x (.agg [(aA y100),(aA y101)]),.x (PV.rp (aI dl sk dc) 0),.c (.agg (kVL 9 10 5 7 11 6)) [(5,(vB0 dl sk dc)),(6,(.box 33 [(.p (aH x))])),(7,(.box 139 (kVL 9 10 5 7 11 6))),(8,(.mp (aF ([]:Lqb)) 0)),(9,(.box 207 [(.mp 8)])),(10,(vB5 dl sk dc)),(11,(.box 209 [(.fn 153 [] [(.ptr 5 0),(.ptr 7 0)])]))],.c (.tup [(pI n200),(pB b201)]) [(5,(vB0 dl sk dc)),(6,(.box 33 [(.p (aH x))])),(7,(.box 139 (kVL 9 10 5 7 11 6))),(8,(.mp (aF T202) T202.length)),(9,(.box 207 [(.mp 8)])),(10,(vB5 dl sk dc)),(11,(.box 209 [(.fn 153 [] [(.ptr 5 0),(.ptr 7 0)])]))],bT,.c (pI (yH mx ([(1099511627776:Int)]:List Int))) []]) (l:=[_,_,FC Tp 184 [(pI mx),(.own 15)] [(15,(.row 3 1 [(aA 1099511627776)]))] 16 (pI (yH mx ([(1099511627776:Int)]:List Int))) [],_,_,_,[(aA 1099511627776),(blP b201),(aH x)].length=3,_,FC Tp 134 [(.rp (aI dl sk dc) 0),(.p (.agg [(aA y100),(aA y101)])),(.agg (kVL 9 10 5 7 11 6))] [(9,(.box 207 [(.mp 8)])),(10,(vB5 dl sk dc)),(5,(vB0 dl sk dc)),(7,(.box 139 (kVL 9 10 5 7 11 6))),(11,(.box 209 [(.fn 153 [] [(.ptr 5 0),(.ptr 7 0)])])),(6,(.box 33 [(.p (aH x))])),(8,(.mp (aF ([]:Lqb)) 0))] 13 (.tup [(pI n200),(pB b201)]) [(5,(vB0 dl sk dc)),(6,(.box 33 [(.p (aH x))])),(7,(.box 139 (kVL 9 10 5 7 11 6))),(8,(.mp (aF T202) T202.length)),(9,(.box 207 [(.mp 8)])),(10,(vB5 dl sk dc)),(11,(.box 209 [(.fn 153 [] [(.ptr 5 0),(.ptr 7 0)])]))],FC Tp 87 [(.rp (aI dl sk dc) 0),(.p (aH x))] [] 5 (.agg (kVL 9 10 5 7 11 6)) [(5,(vB0 dl sk dc)),(6,(.box 33 [(.p (aH x))])),(7,(.box 139 (kVL 9 10 5 7 11 6))),(8,(.mp (aF ([]:Lqb)) 0)),(9,(.box 207 [(.mp 8)])),(10,(vB5 dl sk dc)),(11,(.box 209 [(.fn 153 [] [(.ptr 5 0),(.ptr 7 0)])]))],[(PV.rp (aI dl sk dc) 0)][0]? = some (PV.rp (aI dl sk dc) 0),some (.agg (([(aA y100),(aA y101)].drop 0).take 2):PV)=some (.agg [(aA y100),(aA y101)]),0+2≤[(aA y100),(aA y101)].length,[(PV.rp (aI dl sk dc) 0)][0]? = some (PV.rp (aI dl sk dc) 0)]) (by kernel_rfl) (gc aHm (gc aHn (gc (fv (aOk mx ([(1099511627776:Int)]:List Int) h3)) (gc aHm (gc aHn (gc h2 (gc (by first | decide | simp) (gc h1 (gc (FMM.fc (ids:=[5,6,7,8,9,10,11]) h0 (by kernel_rfl)) (gc (FMM.fcN (k:=7) rfl (ids:=[]) (oW (dl:=dl) (sk:=sk) (dc:=dc) (on:=x.length) (ol:=(x.map aA))) (by kernel_rfl)) (gc rfl (gc rfl (gc (by first | decide | simp) (gc rfl gn))))))))))))))
theorem aYz{aln:Nat}{alc:List PV}{i:Nat}{y100 y101:Int}{o102:List Int}{chn:Nat}{chc:List PV}{mn mx:Int}{x:List Int}{n200:Int}{b201:Bool}{T202:Lqb}{ch'n:Nat}{ch'c:List PV}{mn' mx':Int}(h0:aCw dl sk dc (aH x) [y100,y101] n200 b201 ([]:Lqb) T202)(h1:b201=false)(h2:[(aA n200),(blP b201),(aH x)].length=1*3∧chn+1≤1000000)(h3:([n200]:List Int).length≤1000)(ech'n:ch'n=(chn+1))(ech'c:ch'c=(chc++[(aA n200),(blP b201),(aH x)]))(emn':mn'=(if n200<mn then n200 else mn))(emx':mx'=(yH mx ([n200]:List Int))):aC Tp 5 (sub (cd Tryz.f161) [1,1,1,1,0,1,0,0,1,1,0,0,1,1,1,0,1,0,1]) (rfO (wO dl sk dc aln alc i y100 y101 o102 chn chc mn mx) 36 10 x) .normal (aPj dl sk dc aln alc i y100 y101 o102 ch'n ch'c mn' mx'):=by
 subst ech'n ech'c emn' emx'
 exact aC.fin (g:=⟨(rng [(0,1),(6,1),(10,12),(36,35)]),[13],[],[]⟩) (o:=[.g 2 ⟨[29],[],[4],[]⟩,.x (PV.rp (aI dl sk dc) 0),.x (.agg [(aA y100),(aA y101)]),.x (PV.rp (aI dl sk dc) 0),.c (.agg (kVL 9 10 5 7 11 6)) [(5,(vB0 dl sk dc)),(6,(.box 33 [(.p (aH x))])),(7,(.box 139 (kVL 9 10 5 7 11 6))),(8,(.mp (aF ([]:Lqb)) 0)),(9,(.box 207 [(.mp 8)])),(10,(vB5 dl sk dc)),(11,(.box 209 [(.fn 153 [] [(.ptr 5 0),(.ptr 7 0)])]))],.c (.tup [(pI n200),(pB b201)]) [(5,(vB0 dl sk dc)),(6,(.box 33 [(.p (aH x))])),(7,(.box 139 (kVL 9 10 5 7 11 6))),(8,(.mp (aF T202) T202.length)),(9,(.box 207 [(.mp 8)])),(10,(vB5 dl sk dc)),(11,(.box 209 [(.fn 153 [] [(.ptr 5 0),(.ptr 7 0)])]))],bF,.c (pI (yH mx ([n200]:List Int))) []]) (l:=[_,_,FC Tp 184 [(pI mx),(.own 15)] [(15,(.row 3 1 [(aA n200)]))] 16 (pI (yH mx ([n200]:List Int))) [],_,_,_,[(aA n200),(blP b201),(aH x)].length=3,_,FC Tp 134 [(.rp (aI dl sk dc) 0),(.p (.agg [(aA y100),(aA y101)])),(.agg (kVL 9 10 5 7 11 6))] [(9,(.box 207 [(.mp 8)])),(10,(vB5 dl sk dc)),(5,(vB0 dl sk dc)),(7,(.box 139 (kVL 9 10 5 7 11 6))),(11,(.box 209 [(.fn 153 [] [(.ptr 5 0),(.ptr 7 0)])])),(6,(.box 33 [(.p (aH x))])),(8,(.mp (aF ([]:Lqb)) 0))] 13 (.tup [(pI n200),(pB b201)]) [(5,(vB0 dl sk dc)),(6,(.box 33 [(.p (aH x))])),(7,(.box 139 (kVL 9 10 5 7 11 6))),(8,(.mp (aF T202) T202.length)),(9,(.box 207 [(.mp 8)])),(10,(vB5 dl sk dc)),(11,(.box 209 [(.fn 153 [] [(.ptr 5 0),(.ptr 7 0)])]))],FC Tp 87 [(.rp (aI dl sk dc) 0),(.p (aH x))] [] 5 (.agg (kVL 9 10 5 7 11 6)) [(5,(vB0 dl sk dc)),(6,(.box 33 [(.p (aH x))])),(7,(.box 139 (kVL 9 10 5 7 11 6))),(8,(.mp (aF ([]:Lqb)) 0)),(9,(.box 207 [(.mp 8)])),(10,(vB5 dl sk dc)),(11,(.box 209 [(.fn 153 [] [(.ptr 5 0),(.ptr 7 0)])]))],[(PV.rp (aI dl sk dc) 0)][0]? = some (PV.rp (aI dl sk dc) 0),some (.agg (([(aA y100),(aA y101)].drop 0).take 2):PV)=some (.agg [(aA y100),(aA y101)]),0+2≤[(aA y100),(aA y101)].length,[(PV.rp (aI dl sk dc) 0)][0]? = some (PV.rp (aI dl sk dc) 0)]) (by kernel_rfl) (gc aHm (gc aHn (gc (fv (aOk mx ([n200]:List Int) h3)) (gc aHm (gc aHn (gc h2 (gc (by first | decide | simp) (gc h1 (gc (FMM.fc (ids:=[5,6,7,8,9,10,11]) h0 (by kernel_rfl)) (gc (FMM.fcN (k:=7) rfl (ids:=[]) (oW (dl:=dl) (sk:=sk) (dc:=dc) (on:=x.length) (ol:=(x.map aA))) (by kernel_rfl)) (gc rfl (gc rfl (gc (by first | decide | simp) (gc rfl gn))))))))))))))
end
section
section
variable {α:Type} {E:α→List PV} {k:Nat}
theorem aSr(hE:∀ a,(E a).length=k)(l:List α):((l.map E).flatten).length=l.length*k:=by
 induction l with
 | nil=>simp
 | cons a l ih=>rw [iN,uK,lO,hE,ih,uL,aCu];omega
theorem wU(hE:∀ a,(E a).length=k){l:List α}{i:Nat}{e:α}(h:l[i]? = some e):∃ a b,(l.map E).flatten=a++(E e++b)∧a.length=i*k:=by
 obtain ⟨hi,rfl⟩:=kQ2.1 h;refine ⟨((l.take i).map E).flatten,((l.drop (i+1)).map E).flatten,?_,?_⟩
 ·have:l=l.take i++(l[i]::l.drop (i+1)):=by rw [← bBy hi,aUq]
  have e2:=congrArg (fun l=>(l.map E).flatten) this
  simp only [iB,iN,aUr,uK] at e2
  exact e2
 ·rw [aSr hE,lC];congr 1;omega
theorem aZz{l:List α}{i f:Nat}(hE:∀ a,(E a).length=k){e:α}{x:PV}(h:l[i]? = some e)(hx:(E e)[f]? = some x):((l.map E).flatten)[i*k+f]? = some x:=by
 obtain ⟨a,b,e1,e2⟩:=wU hE h;have hf:=(kQ2.1 hx).1;rw [e1,← e2,aAq (by omega),Nat.add_sub_cancel_left,aAr hf]
 exact hx
theorem tH{l:List α}{i:Nat}(hE:∀ a,(E a).length=k){e:α}(h:l[i]? = some e):i*k+k≤((l.map E).flatten).length:=by
 obtain ⟨a,b,e1,e2⟩:=wU hE h;rw [e1,lO,lO,hE,e2];omega
theorem lV{l:List α}{i:Nat}(hE:∀ a,(E a).length=k){e:α}(h:l[i]? = some e){x:PV}(hx:PV.agg (E e)=x):some (.agg ((((l.map E).flatten).drop (i*k)).take k):PV)=some x:=by
 obtain ⟨a,b,e1,e2⟩:=wU hE h;rw [e1,← e2,List.drop_left,List.take_left' (hE e),hx]
theorem qX{l:List α}{i:Int}(hE:∀ a,(E a).length=k)(hk:0<k)(h0:0≤i){e:α}(h:l[i.toNat]? = some e):0≤i∧i<(l.length:Int)∧i.toNat*k<((l.map E).flatten).length:=by
 have hi:=(kQ2.1 h).1;refine ⟨h0,by omega,?_⟩
 rw [aSr hE];exact Nat.mul_lt_mul_of_pos_right hi hk
end
end
section
abbrev cL:=Int × Bool × List Int
abbrev fC:=List cL × Int × Int
def hpE(h:fC):List PV:=[.sl h.1.length (h.1.map chE).flatten,aA h.2.1,aA h.2.2]
abbrev far:Int:=1099511627776
def chM(dl:Int)(dc:Lqq)(s0 s1:Int)(q:List Int):cL:=(if (kB dl q dc s0 s1).2 then far else (kB dl q dc s0 s1).1,(kB dl q dc s0 s1).2,q)
def mnM(l:List cL):Int:=l.foldl (fun m x=>if x.1<m then x.1 else m) far
def mxM(l:List cL):Int:=l.foldl (fun m x=>if x.1 > m then x.1 else m) 0
def nS(dl:Int)(dc:Lqq)(s0 s1:Int)(o:List Int):fC:=((iY o).map (chM dl dc s0 s1),mnM ((iY o).map (chM dl dc s0 s1)),mxM ((iY o).map (chM dl dc s0 s1)))
def aKy(dc:Lqq)(n:Int):Int:=match ofN dc n with
 | some x=>vD dc x
 | none=>0
def tF(dl:Int)(dc:Lqq)(bib:Int):List Int:=(aS dl dc).filter fun n => !(aKy dc n != bib)
def bK(dl:Int)(sk dc:Lqq):List fC:=sk.map fun s=>nS dl dc (s.getD 0 0) (s.getD 1 0) (tF dl dc (s.getD 0 0))
theorem aSi(x:cL):jM (chE x)=true:=by
 obtain ⟨a,b,l⟩:=x;show (nmP (aA a) && (nmP (blP b) && (nmP (aH l) && true)))=true;have h:nmP (aH l)=true:=by
  show jM (l.map aA)=true;exact aBe aA (fun _=>rfl) l
 rw [h];rfl
theorem xY:∀ (a b:List PV),jM (a++b)=(jM a && jM b)
 | [],b=>rfl
 | x::a,b=>by
  show (nmP x && jM (a++b))=((nmP x && jM a) && jM b);rw [xY a b,Bool.and_assoc]
theorem rO{α:Type}{E:α→List PV}(h:∀ a,jM (E a)=true):∀ l:List α,jM (l.map E).flatten=true
 | []=>rfl
 | a::l=>by rw [iN,uK,xY,h a,rO h l];rfl
theorem bJu(x:fC):jM (hpE x)=true:=by
 obtain ⟨l,a,b⟩:=x;show (jM (l.map chE).flatten && (nmP (aA a) && (nmP (aA b) && true)))=true;rw [rO aSi];rfl
def bRm(dl:Int)(sk dc:Lqq)(al:List fC)(i:Nat)(y0 y1:Int)(o:List Int)(l:List cL):St:=wO dl sk dc al.length (al.map hpE).flatten i y0 y1 o l.length (l.map chE).flatten (mnM l) (mxM l)
def bTy(dl:Int)(sk dc:Lqq)(al:List fC)(i:Nat)(y0 y1:Int)(o:List Int)(l:List cL):St:=aPj dl sk dc al.length (al.map hpE).flatten i y0 y1 o l.length (l.map chE).flatten (mnM l) (mxM l)
theorem bJv(l:List cL)(c:cL):(l++[c]).length=l.length+1∧((l++[c]).map chE).flatten=(l.map chE).flatten++chE c∧mnM (l++[c])=(if c.1<mnM l then c.1 else mnM l)∧mxM (l++[c])=yH (mxM l) [c.1]:=by
 refine ⟨by simp,by simp,?_,?_⟩
 ·unfold mnM;rw [aJu];rfl
 ·unfold mxM;rw [aJu];rfl
theorem aYu{dl:Int}{sk dc:Lqq}(hd:cE dc){al:List fC}{i:Nat}{y0 y1:Int}(hs : -1≤y1∧y1≤360000){o:List Int}{l:List cL}(hl:l.length+1≤1000000){x:List Int}(hx:x.length≤1000) :
  aC Tp 5 (sub (cd Tryz.f161) [1,1,1,1,0,1,0,0,1,1,0,0,1,1,1,0,1,0,1]) (rfO (bRm dl sk dc al i y0 y1 o l) 36 10 x) .normal (bTy dl sk dc al i y0 y1 o (l++[chM dl dc y0 y1 x])):=by
 obtain ⟨T',_,hT⟩:=bCu (sk:=sk) hd (fun n=>aBh hx n) y0 y1 hs (T:=[]) cD.nil
 obtain ⟨e1,e2,e3,e4⟩:=bJv l (chM dl dc y0 y1 x);cases hb:(kB dl x dc y0 y1).2 with
 | true =>
  have ec:chM dl dc y0 y1 x=(far,true,x):=by unfold chM;rw [hb];rfl
  rw [hb] at hT
  rw [ec] at e1 e2 e3 e4 ⊢
  exact aYy hT rfl ⟨rfl,hl⟩ (by simp) e1 e2 e3 e4
 | false =>
  have ec:chM dl dc y0 y1 x=((kB dl x dc y0 y1).1,false,x):=by unfold chM;rw [hb];rfl
  rw [hb] at hT
  rw [ec] at e1 e2 e3 e4 ⊢
  exact aYz hT rfl ⟨rfl,hl⟩ (by simp) e1 e2 e3 e4
theorem aYv{dl:Int}{sk dc:Lqq}(hd:cE dc){al:List fC}{i:Nat}{y0 y1:Int}(hs : -1≤y1∧y1≤360000){o:List Int}(ho:o.length≤8) :
  aC Tp 0 (sub (cd Tryz.f161) [1,1,1,1,0,1,0,0,1,1,0,0,1,1,1,0,1,0]) (aHo dl sk dc al.length (al.map hpE).flatten i y0 y1 o) .normal (bRm dl sk dc al i y0 y1 o ((iY o).map (chM dl dc y0 y1))):=by
 have hp:(2:Nat) ^ o.length≤256:=gI (Nat.pow_le_pow_right (by omega) ho) (by decide)
 refine (aEv (P:=Tp) (k:=0) (kb:=5) (kk:=3) (g0:=⟨[],[3],[],[(102000,197)]⟩) (g1:=⟨[],[5],[],[]⟩) (aHo dl sk dc al.length (al.map hpE).flatten i y0 y1 o)
  (fun pre=>bRm dl sk dc al i y0 y1 o (pre.map (chM dl dc y0 y1))) (fun pre l=>bTy dl sk dc al i y0 y1 o ((pre++[l]).map (chM dl dc y0 y1))) (fun _ _=>⟨[],[]⟩) _ [] (fun _ _=>false)
  (cc := sub (cd Tryz.f161) [1, 1, 1, 1, 0, 1, 0, 0, 1, 1, 0, 0, 1, 1, 1, 0, 1, 0]) (gi := 35) (p1 := 36) (d := 10) (id := 11) (ty := 33) (pos := "outcome.go:71") (body := sub (cd Tryz.f161) [1, 1, 1, 1, 0, 1, 0, 0, 1, 1, 0, 0, 1, 1, 1, 0, 1, 0, 1]) (by kernel_rfl)
  rfl (fun _=>rfl) (g := .fn 182 [] [.rp [aH o] 0]) (by rfl) (aEt o (by omega)) (fun args w=>rfl) (fun _=>rfl) (fun pre => ?_) (fun _ _=>rfl) (fun _ _=>rfl) rfl rfl (fun _=>by show 4<5;omega) (by kernel_rfl) (fun x=>rfl) (by show 3≤3;omega) rfl (by kernel_rfl) (fun pre l=>by kernel_rfl) (fun _ _ h=>by cases h) (gR:=⟨[],[],[],[]⟩) (fun pre l hpl hx=>⟨fun _ => ?_,fun h=>by cases h⟩)).1 (fun _ _ _=>rfl)
 ·show (jM (al.map hpE).flatten && (jM [] && (jM ((pre.map (chM dl dc y0 y1)).map chE).flatten && true)))=true
  rw [rO bJu,rO aSi];rfl
 ·have:=aYu (dl:=dl) (y0:=y0) (sk:=sk) hd (al:=al) (i:=i) hs (o:=o) (l:=pre.map (chM dl dc y0 y1)) (by rw [eP];omega) hx
  rw [iB];exact this
end
section
theorem bRk{dl:Int}{sk dc:Lqq}(hd:cE dc){bib tm n:Int}(hn:n∈aS dl dc):aPl dl sk dc bib tm n (aKy dc n != bib):=fun base=>by
 unfold aS at hn
 obtain ⟨x,hx,rfl⟩:=eQ.1 hn;have hx:=(aAt.1 hx).1;have hr:=fO hd hx;have hs:aKy dc (dN x)=vD dc x:=by unfold aKy;rw [aSo hd hx]
 rw [hs];obtain ⟨h1,h2⟩:=aPx hd hx;have hk:=vB hd (n:=dN x) (by unfold inR;omega)
 have hab:=lJ hd x hx;obtain ⟨a,b,c,d,e,f,rfl⟩:=len6 (hd.ud x hx);have hf:inR f:=by
  have:=(gW.1 (hd.rng _ hx));unfold inR;simp [dAb] at this hab ⊢;omega
 exact bRr hk h1 h2 (fun base=>bEy hd hf (.inl hx) hr.2) rfl
theorem bEi(dl:Int)(dc:Lqq)(b:Int):(tF dl dc b).length≤(aS dl dc).length:=vX _ _
theorem bJt{dl:Int}{sk dc:Lqq}(hd:cE dc)(hu:uni 2 sk)(hl:sk.length≤1000)(hs:∀ s∈sk,-1≤s.getD 1 0∧s.getD 1 0≤360000)(ho:(aS dl dc).length≤8) :
  aM Tp 0 (sub (cd Tryz.f161) [1,1,1,1,0,1,0,0]) (lU dl sk dc 0 [] 0) (.exit 0) (lU dl sk dc (bK dl sk dc).length ((bK dl sk dc).map hpE).flatten sk.length):=by
 obtain ⟨acc,hI,hL⟩:=aM.ex (P:=Tp) (k:=0) (b:=sub (cd Tryz.f161) [1,1,1,1,0,1,0,0]) (e := .exit 0) (fun i (al:List fC)=>lU dl sk dc al.length (al.map hpE).flatten i) (fun al=>lU dl sk dc al.length (al.map hpE).flatten sk.length) (fun i al=>al=bK dl (sk.take i) dc) (by simp) sk.length
  (fun i al hi hal=>by
   obtain ⟨x,hx⟩:∃ x,sk[i]? = some x:=⟨_,kQ0 hi⟩;have hm:=kQ5 hx;have hsx:=hs x hm;obtain ⟨y0,y1,rfl⟩:=len2 (hu x hm);have hlen:al.length=i:=by rw [hal];unfold bK;rw [eP,lC];omega
   refine ⟨al++[nS dl dc y0 y1 (tF dl dc y0)],?_,aYw (o102:=tF dl dc y0) (by omega) hx hu (by omega) (bRq (by omega) fun n hn=>bRk hd hn) (aYv hd hsx (gI (bEi dl dc y0) ho)) ⟨rfl,by omega⟩ (aP (by omega)) (by simp) (by simp only [iB,iN,List.map_nil,aUr,uK,List.flatten_nil,List.append_nil];rfl) rfl⟩
   rw [hal];unfold bK;rw [List.take_add_one,hx];simp)
  (fun al _=>aYx (by omega)) (acc:=[]) (by simp [bK])
 rw [List.take_length] at hI
 rw [← hI];exact hL
theorem bRl{dl:Int}{sk dc:Lqq}(hd:cE dc)(hu:uni 2 sk)(hl:sk.length≤1000)(hs:∀ s∈sk,-1≤s.getD 1 0∧s.getD 1 0≤360000)(ho:(aS dl dc).length≤8){base:Nat} :
  FV Tp 161 [pK dl sk dc] base (.tup [.own base,.p (aA 0)]) [(base,.row 195 (bK dl sk dc).length ((bK dl sk dc).map hpE).flatten)]:=bRn hd (by omega) (bJt hd hu hl hs ho)
end
end KV
end Go.Proofs
section
namespace Go.Proofs
open Go.Shelf
def Tryz.lays189_ren:Go.Shelf.Ren:=⟨fun | 189=>57 | 125=>131 | 257=>130 | 128=>180 | 129=>181 | 294=>171 | 295=>172 | 296=>173 | 297=>174 | 298=>175 | 299=>176 | 216=>177 | 300=>178 | 301=>179 | 328=>207 | 329=>208 | 330=>209 | 331=>210 | 332=>211 | 215=>168 | 343=>224 | n=>n,fun | 28=>33 | 3=>3 | 46=>172 | 0=>0 | 51=>127 | 53=>225 | 4=>4 | 183=>218 | 182=>217 | 131=>106 | 5=>5 | 9=>9 | 218=>245 | 222=>249 | 228=>257 | 229=>198 | n=>n,fun | n=>n⟩
theorem Tryz.lays189:Go.Proofs.Lays.n189 Tryz.prog Tryz.lays189_ren:={
 mixed:=by kernel_rfl
 f125:=Tryz.func131.trans (congrArg some (by kernel_rfl))
 f128:=Tryz.func180.trans (congrArg some (by kernel_rfl))
 f129:=Tryz.func181.trans (congrArg some (by kernel_rfl))
 f189:=Tryz.func57.trans (congrArg some (by kernel_rfl))
 f215:=Tryz.func168.trans (congrArg some (by kernel_rfl))
 f216:=Tryz.func177.trans (congrArg some (by kernel_rfl))
 f257:=Tryz.func130.trans (congrArg some (by kernel_rfl))
 f294:=Tryz.func171.trans (congrArg some (by kernel_rfl))
 f295:=Tryz.func172.trans (congrArg some (by kernel_rfl))
 f296:=Tryz.func173.trans (congrArg some (by kernel_rfl))
 f297:=Tryz.func174.trans (congrArg some (by kernel_rfl))
 f298:=Tryz.func175.trans (congrArg some (by kernel_rfl))
 f299:=Tryz.func176.trans (congrArg some (by kernel_rfl))
 f300:=Tryz.func178.trans (congrArg some (by kernel_rfl))
 f301:=Tryz.func179.trans (congrArg some (by kernel_rfl))
 f328:=Tryz.func207.trans (congrArg some (by kernel_rfl))
 f329:=Tryz.func208.trans (congrArg some (by kernel_rfl))
 f330:=Tryz.func209.trans (congrArg some (by kernel_rfl))
 f331:=Tryz.func210.trans (congrArg some (by kernel_rfl))
 f332:=Tryz.func211.trans (congrArg some (by kernel_rfl))
 f343:=Tryz.func224.trans (congrArg some (by kernel_rfl))
 t0:=Tryz.underlying0
 a0:=Tryz.isAgg0
 z0:=Tryz.sizeOf0
 v0:=Tryz.zeroValue0
 t3:=Tryz.underlying3
 a3:=Tryz.isAgg3
 z3:=Tryz.sizeOf3
 v3:=Tryz.zeroValue3
 t4:=Tryz.underlying4
 a4:=Tryz.isAgg4
 z4:=Tryz.sizeOf4
 v4:=Tryz.zeroValue4
 t5:=Tryz.underlying5
 a5:=Tryz.isAgg5
 z5:=Tryz.sizeOf5
 v5:=Tryz.zeroValue5
 t9:=Tryz.underlying9
 a9:=Tryz.isAgg9
 z9:=Tryz.sizeOf9
 v9:=Tryz.zeroValue9
 t28:=Tryz.underlying33
 a28:=Tryz.isAgg33
 z28:=Tryz.sizeOf33
 v28:=Tryz.zeroValue33
 t46:=Tryz.underlying172
 a46:=Tryz.isAgg172
 z46:=Tryz.sizeOf172
 v46:=Tryz.zeroValue172
 t51:=Tryz.underlying127
 a51:=Tryz.isAgg127
 z51:=Tryz.sizeOf127
 v51:=Tryz.zeroValue127
 t53:=Tryz.underlying225
 a53:=Tryz.isAgg225
 z53:=Tryz.sizeOf225
 v53:=Tryz.zeroValue225
 t131:=Tryz.underlying106
 a131:=Tryz.isAgg106
 z131:=Tryz.sizeOf106
 v131:=Tryz.zeroValue106
 t182:=Tryz.underlying217
 a182:=Tryz.isAgg217
 z182:=Tryz.sizeOf217
 v182:=Tryz.zeroValue217
 t183:=Tryz.underlying218
 a183:=Tryz.isAgg218
 z183:=Tryz.sizeOf218
 v183:=Tryz.zeroValue218
 t218:=Tryz.underlying245
 a218:=Tryz.isAgg245
 z218:=Tryz.sizeOf245
 v218:=Tryz.zeroValue245
 t222:=Tryz.underlying249
 a222:=Tryz.isAgg249
 z222:=Tryz.sizeOf249
 v222:=Tryz.zeroValue249
 t228:=Tryz.underlying257
 a228:=Tryz.isAgg257
 z228:=Tryz.sizeOf257
 v228:=Tryz.zeroValue257
 t229:=Tryz.underlying198
 a229:=Tryz.isAgg198
 z229:=Tryz.sizeOf198
 v229:=Tryz.zeroValue198 }
open Go.Sort Go.RowKit in
theorem Tryz.slices_Sort_int(blk off cap:Nat)(zs:List Int)(w:World)(hH:Holds (Value.int .i64) w blk off zs.toArray)(hblk:blk<w.heap.size)(hsz:zs.length<4611686018427387904) :
  Calls Tryz.prog 57 #[.slice (some ⟨blk,off,none⟩) zs.length cap] w fun e w' =>
   e = .returned (.tuple #[])∧∃ n os,w'=grow (putRow (Value.int .i64) (Sort.ahead w n) blk off (zs.mergeSort fun x y=>decide (x≤y)).toArray) os:=Any.slices_Sort_int Tryz.lays189 blk off cap zs w hH hblk hsz
def Tryz.laysNm220_ren:Go.Shelf.Ren:=⟨fun | 20=>186 | n=>n,fun | 22=>33 | 3=>3 | 4=>4 | 0=>0 | n=>n,fun | n=>n⟩
theorem Tryz.laysNm220:Go.Proofs.Lays2.n20 Tryz.prog Tryz.laysNm220_ren:={
 mixed:=by kernel_rfl
 f20:=Tryz.func186.trans (congrArg some (by kernel_rfl))
 t0:=Tryz.underlying0
 a0:=Tryz.isAgg0
 z0:=Tryz.sizeOf0
 v0:=Tryz.zeroValue0
 t3:=Tryz.underlying3
 a3:=Tryz.isAgg3
 z3:=Tryz.sizeOf3
 v3:=Tryz.zeroValue3
 t4:=Tryz.underlying4
 a4:=Tryz.isAgg4
 z4:=Tryz.sizeOf4
 v4:=Tryz.zeroValue4
 t22:=Tryz.underlying33
 a22:=Tryz.isAgg33
 z22:=Tryz.sizeOf33
 v22:=Tryz.zeroValue33
 i3:=by kernel_rfl }
open Go.RowKit Go.Lib Go.Sort in
theorem Tryz.slices_Compact_int(blk off cap:Nat)(zs:List Int)(w:World)(hH:Holds (Value.int .i64) w blk off zs.toArray)(hsz:zs.length≤9223372036854775807)(hcap:zs.length≤cap) :
  Calls Tryz.prog 186 #[.slice (some ⟨blk,off,none⟩) zs.length cap] w fun e w'=>e = .returned (.slice (some ⟨blk,off,none⟩) (Lib.compact zs).length cap)∧∃ q,w'=putRow (Value.int .i64) (Sort.ahead w q) blk off (Lib.compact zs++List.replicate (zs.length-(Lib.compact zs).length) 0).toArray:=Any.slices_Compact_int Tryz.laysNm220 blk off cap zs w hH hsz hcap
open Go.RowKit Go.Lib Go.Sort in
theorem Tryz.slices_Compact_int_empty(a:Option Addr)(cap:Nat)(w:World) :
  Calls Tryz.prog 186 #[.slice a 0 cap] w fun e w'=>e = .returned (.slice a 0 cap)∧w'=w:=Any.slices_Compact_int_empty Tryz.laysNm220 a cap w
theorem Tryz.slices_Sort_int_none(p:Option Addr)(cap:Nat)(w:World) :
  Calls Tryz.prog 57 #[.slice p 0 cap] w fun e w'=>e = .returned (.tuple #[])∧w'=w:=Any.slices_Sort_int_none Tryz.lays189 p cap w
end Go.Proofs
end
