/- Parts of the proof of JPursued: laws of walks, contracts of functions, plain models. No condition. -/
import Derived.RangeFuncNested
import Derived.Sort.LoopGhostIn
import Derived.Lib.OwnBridge
import Derived.Shelf.Slices.Clone
import Derived.Shelf.Small.Bits
import Derived.Shelf.Small.Wraps
import Derived.Shelf.Strconv.Itoa0
import Derived.Shelf.Sort.Plain
import Derived.Shelf.Slices.Turned
import Derived.Ground.Names2Prog
import Derived.Shelf.Slices.CompactI
import Derived.Shelf.Slices.SearchI
import Derived.Shelf.Slices.Cells
import Derived.Shelf.Slices.In.SortNone
import Derived.Ground.SlgnProg
import Derived.Shelf.SlicesE.Clone
import Derived.Test.YtaghkcgipomdjaaGreatProg
import Derived.Sort.OwnSortedInts
import Derived.OneCell
import Derived.Test.YtaghkcgipomdjaaGreatPJPursuedC
set_option linter.unusedVariables false
set_option linter.unusedSimpArgs false
set_option maxRecDepth 100000
namespace Go.Proofs
namespace KV
open Tryz
section
section
variable {dc:Lqq}
theorem aHk(h:bV dc){n:Int}(hn:1≤n∧n≤9999):bQ .i64 (abE dc) (.int .i64 n):=by
 have ha:=aOh h;refine ⟨fun e he => ?_,mS (by omega),?_⟩
 ·obtain ⟨p,hp,rfl⟩:=dS.1 he
  obtain ⟨q1,q2,q3⟩:=ha.mem p hp;cases hx:p.2 with
  | nil=>exact absurd hx q2
  | cons x r =>
   have:x∈dc.reverse.filter fun x=>dAb x == p.1:=by rw [← q3,hx];exact jQ ..
   obtain ⟨h1,h2⟩:=wI.1 this;have:=lE h x (aBb.1 h1);have h2:dAb x=p.1:=by simpa using h2
   exact mS (by omega)
 ·have:(abE dc).map (fun e=>gW e.1)=(abM dc).map (·.1):=by
   unfold abE;rw [qK];rfl
  rw [this];exact ha.nd
theorem aHl(h:bV dc){n:Int}(hn:0<n):(cW (abE dc) (.int .i64 n)=true∧eP (abE dc) (.int .i64 n)=some (.sl (bK dc n).length ((bK dc n).flatten.map aA)))∨(cW (abE dc) (.int .i64 n)=false∧bK dc n=[]):=by
 have ha:=aOh h;have e1:cW (abE dc) (.int .i64 n)=(abM dc).any fun e=>e.1 == n:=by
  unfold cW abE;rw [List.any_map]
  congr 1
 have e2:eP (abE dc) (.int .i64 n)=((abM dc).find? fun e=>e.1 == n).map fun e => .sl e.2.length (e.2.flatten.map aA):=by
  unfold eP abE;generalize abM dc=L
  induction L with
  | nil=>rfl
  | cons p L ih =>
   rw [gY,List.find?_cons,List.find?_cons];have e:(decide (gW (((Value.int IntKind.i64 p.1),PV.sl p.2.length (p.2.flatten.map aA)):Value × PV).1=gW (Value.int IntKind.i64 n)))=(p.1 == n):=by
    show decide (p.1=n)=(p.1 == n);rw [Bool.eq_iff_iff];simp
   rw [e];cases p.1 == n with
   | true=>rfl
   | false=>exact ih
 rw [e1,e2];cases hf:(abM dc).find? fun e=>e.1 == n with
 | some e =>
  have h1:=wG hf;have h2:e.1=n:=by simpa using aVd hf
  obtain ⟨q1,q2,q3⟩:=ha.mem e h1;refine .inl ⟨List.any_eq_true.2 ⟨e,h1,by simpa using h2⟩,?_⟩
  have:e.2=bK dc n:=by rw [q3,h2];rfl
  rw [Option.map_some,this]
 | none =>
  refine .inr ⟨?_,?_⟩
  ·rw [List.any_eq_false]
   intro e he;exact aGo.1 hf e he
  ·rw [← bDt h hn]
   unfold xX;rw [hf]
theorem gB(h:bV dc)(n:Int):uni 6 (bK dc n):=fun y hy=>h.ud y (dX hy).1
theorem wW(h:bV dc)(n:Int):(bK dc n).length≤1000:=by
 have:=yK (fun x=>dAb x == n) dc.reverse
 have h2:=h.len;rw [List.length_reverse] at this
 unfold bK;omega
theorem aSq{α:Type}{p:α→Bool}{l:List α}{i:Nat}{x:α}(hi:l[i]? = some x)(hp:p x=true)(hj:∀ j y,j<i→l[j]? = some y→p y=false):l.find? p=some x:=by
 obtain ⟨h1,h2⟩:=Bc.1 hi;rw [List.find?_eq_some_iff_getElem];exact ⟨hp,i,h1,h2,fun j h=>by
  rw [hj j l[j] h (Aq (by omega))];rfl⟩
end
def Gz:List Int:=[0,0,0,0,0,0]
section
variable (dl:Int) (sk dc:Lqq) (oc:List Int) (ov:PV)
def pK(x:List Int):Prop:=∀ T,cA dl oc dc T→∃ T',cA dl oc dc T'∧qZ dl sk dc ov x (dI dl oc dc x) T T'
def bMy(g:Nat)(q:List Int→Bool)(x:List Int):Prop:=∀ T,cA dl oc dc T→∃ T',cA dl oc dc T'∧bRy g dl sk dc ov x (((bK dc (dN x)).find? fun y=>q y && dI dl oc dc y).getD Gz) ((bK dc (dN x)).find? fun y=>q y && dI dl oc dc y).isSome T T'
def bMz(x:List Int):Prop:=∀ T,cA dl oc dc T→∃ T',cA dl oc dc T'∧aLd dl sk dc ov x ((tU dl oc dc x).getD Gz) (tU dl oc dc x).isSome T T'
def bNa(x:List Int):Prop:=∀ T,cA dl oc dc T→∃ T',cA dl oc dc T'∧bRz dl sk dc ov x ((aGz dl oc dc x).getD Gz) (aGz dl oc dc x).isSome T T'
def aSr(x:List Int):Prop:=∀ T,cA dl oc dc T→∃ T',cA dl oc dc T'∧bKn dl sk dc ov x (aGy dl oc dc x) T T'
def bNb(x:List Int):Prop:=∀ T,cA dl oc dc T→∃ T',cA dl oc dc T'∧yQ dl sk dc ov x (pF dl oc dc x) T T'
end
section
variable {dl:Int} {sk dc:Lqq} {oc:List Int} {ov:PV}
theorem aYv(l:Lqq)(hu:uni 6 l)(hl:l.length≤1000)(hC:∀ y∈l,pK dl sk dc oc ov y)(T:Lqb)(hT:cA dl oc dc T) :
  (∃ i T' y,l[i]? = some y∧(cJ (dK y) && dI dl oc dc y)=true∧(∀ j z,j<i→l[j]? = some z→(cJ (dK z) && dI dl oc dc z)=false)∧cA dl oc dc T'∧aG Tp 7 (sub (cd Tryz.f99) cf) (dE dl sk dc ov 0 l l.length (aK T) T.length 0 0 0 0 0 0) .ret (cQ (dE dl sk dc ov i l l.length (aK T') T'.length (y.getD 0 0) (y.getD 1 0) (y.getD 2 0) (y.getD 3 0) (y.getD 4 0) (y.getD 5 0)) [(7,.kb true)])) ∨
  ((l.find? fun y=>cJ (dK y) && dI dl oc dc y)=none∧∃ T',cA dl oc dc T'∧aG Tp 7 (sub (cd Tryz.f99) cf) (dE dl sk dc ov 0 l l.length (aK T) T.length 0 0 0 0 0 0) (.exit 0) (dE dl sk dc ov l.length l l.length (aK T') T'.length 0 0 0 0 0 0)):=by
 have hx:∀ i,i<l.length→∃ a b c d e f,l[i]? = some [a,b,c,d,e,f]∧l.getD i []=[a,b,c,d,e,f]∧[a,b,c,d,e,f]∈l:=fun i hi=>by
  obtain ⟨a,b,c,d,e,f,h⟩:=A8 (hu _ (gJ hi));have h1:l[i]? = some [a,b,c,d,e,f]:=by rw [Aq hi,h]
  exact ⟨a,b,c,d,e,f,h1,by rw [Bm,h1];rfl,Bi h1⟩
 rcases aG.exF (P:=Tp) (k:=7) (b:=sub (cd Tryz.f99) cf) (e1 := .ret) (e2 := .exit 0) (fun i T=>dE dl sk dc ov i l l.length (aK T) T.length 0 0 0 0 0 0)
  (fun i T=>cQ (dE dl sk dc ov i l l.length (aK T) T.length ((l.getD i []).getD 0 0) ((l.getD i []).getD 1 0) ((l.getD i []).getD 2 0) ((l.getD i []).getD 3 0) ((l.getD i []).getD 4 0) ((l.getD i []).getD 5 0)) [(7,.kb true)])
  (fun T=>dE dl sk dc ov l.length l l.length (aK T) T.length 0 0 0 0 0 0) (cA dl oc dc) (by simp) (by simp) (fun i=>cJ (dK (l.getD i [])) && dI dl oc dc (l.getD i [])) l.length
  (fun i T1 hi h1 hp=>by
   obtain ⟨a,b,c,d,e,f,g1,g2,g3⟩:=hx i hi;rw [g2] at hp
   cases hq:cJ b with
   | false=>exact ⟨T1,h1,aPl (by omega) g1 hu hq (aN (by omega)) rfl⟩
   | true =>
    have hp:(cJ b && dI dl oc dc [a,b,c,d,e,f])=false:=hp;rw [hq,hZ] at hp
    obtain ⟨T2,h2,c2⟩:=hC _ g3 T1 h1;rw [hp] at c2
    exact ⟨T2,h2,aPk (by omega) g1 hu hq c2 rfl (aN (by omega)) rfl rfl rfl⟩)
  (fun i T1 hi h1 hp=>by
   obtain ⟨a,b,c,d,e,f,g1,g2,g3⟩:=hx i hi;rw [g2] at hp ⊢
   rw [Bl] at hp
   obtain ⟨T2,h2,c2⟩:=hC _ g3 T1 h1;rw [hp.2] at c2
   exact ⟨T2,h2,aPj (by omega) g1 hu hp.1 c2 rfl rfl rfl⟩)
  (fun T1 h1=>aPm (by omega)) hT with ⟨i,T',h1,h2,h3,h4,h5⟩ | ⟨h1,T',h2,h3⟩
 ·obtain ⟨a,b,c,d,e,f,g1,g2,g3⟩:=hx i h1
  rw [g2] at h2 h5
  refine .inl ⟨i,T',_,g1,h2,fun j z hj hz => ?_,h4,h5⟩
  have:=h3 j hj;rw [Bm,hz] at this
  exact this
 ·refine .inr ⟨?_,T',h2,h3⟩
  rw [aGo];intro y hy;obtain ⟨i,hi,rfl⟩:=List.mem_iff_getElem.1 hy;have:=h1 i hi;rw [Bm,Aq hi] at this
  simpa using this
theorem bKl(hd:bV dc){x:List Int}(hx:x∈dc)(hC:∀ y∈bK dc (dN x),pK dl sk dc oc ov y):bMy dl sk dc oc ov 101 (fun y=>cJ (dK y)) x:=fun T hT=>by
 have hn:=eV hd hx;have hk:=aHk hd hn;have hL:=aYv (bK dc (dN x)) (gB hd _) (wW hd _) hC T hT;obtain ⟨x0,x1,x2,x3,x4,x5,rfl⟩:=A8 (hd.ud x hx)
 rcases aHl hd (n:=dN [x0,x1,x2,x3,x4,x5]) (by omega) with ⟨h1,h2⟩ | ⟨h1,h2⟩
 ·rcases hL with ⟨i,T',y,q1,q2,q3,q4,q5⟩ | ⟨q1,T',q2,q3⟩
  ·have hf:=aSq (p:=fun y=>cJ (dK y) && dI dl oc dc y) q1 q2 q3
   rw [hf];obtain ⟨a,b,c,d,e,f,rfl⟩:=A8 (gB hd _ _ (Bi q1));exact ⟨T',q4,bKs hk h1 h2 q5⟩
  ·rw [q1]
   exact ⟨T',q2,bKr hk h1 h2 q3⟩
 ·rw [h2] at hL ⊢
  rcases hL with ⟨i,T',y,q1,q2,q3,q4,q5⟩ | ⟨q1,T',q2,q3⟩
  ·simp at q1
  ·exact ⟨T',q2,bKt hk h1 q3⟩
theorem aYw(l:Lqq)(hu:uni 6 l)(hl:l.length≤1000)(hC:∀ y∈l,pK dl sk dc oc ov y)(T:Lqb)(hT:cA dl oc dc T) :
  (∃ i T' y,l[i]? = some y∧(dK y == 6 && dI dl oc dc y)=true∧(∀ j z,j<i→l[j]? = some z→(dK z == 6 && dI dl oc dc z)=false)∧cA dl oc dc T'∧aG Tp 7 (sub (cd Tryz.f99) cf) (dF dl sk dc ov 0 l l.length (aK T) T.length 0 0 0 0 0 0) .ret (cQ (dF dl sk dc ov i l l.length (aK T') T'.length (y.getD 0 0) (y.getD 1 0) (y.getD 2 0) (y.getD 3 0) (y.getD 4 0) (y.getD 5 0)) [(7,.kb true)])) ∨
  ((l.find? fun y=>dK y == 6 && dI dl oc dc y)=none∧∃ T',cA dl oc dc T'∧aG Tp 7 (sub (cd Tryz.f99) cf) (dF dl sk dc ov 0 l l.length (aK T) T.length 0 0 0 0 0 0) (.exit 0) (dF dl sk dc ov l.length l l.length (aK T') T'.length 0 0 0 0 0 0)):=by
 have hx:∀ i,i<l.length→∃ a b c d e f,l[i]? = some [a,b,c,d,e,f]∧l.getD i []=[a,b,c,d,e,f]∧[a,b,c,d,e,f]∈l:=fun i hi=>by
  obtain ⟨a,b,c,d,e,f,h⟩:=A8 (hu _ (gJ hi));have h1:l[i]? = some [a,b,c,d,e,f]:=by rw [Aq hi,h]
  exact ⟨a,b,c,d,e,f,h1,by rw [Bm,h1];rfl,Bi h1⟩
 rcases aG.exF (P:=Tp) (k:=7) (b:=sub (cd Tryz.f99) cf) (e1 := .ret) (e2 := .exit 0) (fun i T=>dF dl sk dc ov i l l.length (aK T) T.length 0 0 0 0 0 0)
  (fun i T=>cQ (dF dl sk dc ov i l l.length (aK T) T.length ((l.getD i []).getD 0 0) ((l.getD i []).getD 1 0) ((l.getD i []).getD 2 0) ((l.getD i []).getD 3 0) ((l.getD i []).getD 4 0) ((l.getD i []).getD 5 0)) [(7,.kb true)])
  (fun T=>dF dl sk dc ov l.length l l.length (aK T) T.length 0 0 0 0 0 0) (cA dl oc dc) (by simp) (by simp) (fun i=>dK (l.getD i []) == 6 && dI dl oc dc (l.getD i [])) l.length
  (fun i T1 hi h1 hp=>by
   obtain ⟨a,b,c,d,e,f,g1,g2,g3⟩:=hx i hi;rw [g2] at hp
   cases hq:(b == 6) with
   | false=>exact ⟨T1,h1,aPp (by omega) g1 hu hq (aN (by omega)) rfl⟩
   | true =>
    have hp:((b == 6) && dI dl oc dc [a,b,c,d,e,f])=false:=hp;rw [hq,hZ] at hp
    obtain ⟨T2,h2,c2⟩:=hC _ g3 T1 h1;rw [hp] at c2
    exact ⟨T2,h2,aPo (by omega) g1 hu hq c2 rfl (aN (by omega)) rfl rfl rfl⟩)
  (fun i T1 hi h1 hp=>by
   obtain ⟨a,b,c,d,e,f,g1,g2,g3⟩:=hx i hi;rw [g2] at hp ⊢
   rw [Bl] at hp
   obtain ⟨T2,h2,c2⟩:=hC _ g3 T1 h1;rw [hp.2] at c2
   exact ⟨T2,h2,aPn (by omega) g1 hu hp.1 c2 rfl rfl rfl⟩)
  (fun T1 h1=>aPq (by omega)) hT with ⟨i,T',h1,h2,h3,h4,h5⟩ | ⟨h1,T',h2,h3⟩
 ·obtain ⟨a,b,c,d,e,f,g1,g2,g3⟩:=hx i h1
  rw [g2] at h2 h5
  refine .inl ⟨i,T',_,g1,h2,fun j z hj hz => ?_,h4,h5⟩
  have:=h3 j hj;rw [Bm,hz] at this
  exact this
 ·refine .inr ⟨?_,T',h2,h3⟩
  rw [aGo];intro y hy;obtain ⟨i,hi,rfl⟩:=List.mem_iff_getElem.1 hy;have:=h1 i hi;rw [Bm,Aq hi] at this
  simpa using this
theorem bKm(hd:bV dc){x:List Int}(hx:x∈dc)(hC:∀ y∈bK dc (dN x),pK dl sk dc oc ov y):bMy dl sk dc oc ov 105 (fun y=>dK y == 6) x:=fun T hT=>by
 have hn:=eV hd hx;have hk:=aHk hd hn;have hL:=aYw (bK dc (dN x)) (gB hd _) (wW hd _) hC T hT;obtain ⟨x0,x1,x2,x3,x4,x5,rfl⟩:=A8 (hd.ud x hx)
 rcases aHl hd (n:=dN [x0,x1,x2,x3,x4,x5]) (by omega) with ⟨h1,h2⟩ | ⟨h1,h2⟩
 ·rcases hL with ⟨i,T',y,q1,q2,q3,q4,q5⟩ | ⟨q1,T',q2,q3⟩
  ·have hf:=aSq (p:=fun y=>dK y == 6 && dI dl oc dc y) q1 q2 q3
   rw [hf];obtain ⟨a,b,c,d,e,f,rfl⟩:=A8 (gB hd _ _ (Bi q1));exact ⟨T',q4,bKv hk h1 h2 q5⟩
  ·rw [q1]
   exact ⟨T',q2,bKu hk h1 h2 q3⟩
 ·rw [h2] at hL ⊢
  rcases hL with ⟨i,T',y,q1,q2,q3,q4,q5⟩ | ⟨q1,T',q2,q3⟩
  ·simp at q1
  ·exact ⟨T',q2,bKw hk h1 q3⟩

theorem bFb(hd:bV dc){x:List Int}(hx:x∈dc)(hC:∀ y∈bK dc (dN x),pK dl sk dc oc ov y):bMz dl sk dc oc ov x:=fun T hT=>by
 obtain ⟨T',h1,h2⟩:=bKl hd hx hC T hT;rw [← aBo hd hx] at h2
 obtain ⟨x0,x1,x2,x3,x4,x5,rfl⟩:=A8 (hd.ud x hx);have hz:∀ z,tU dl oc dc [x0,x1,x2,x3,x4,x5]=some z→z.length=6:=fun z hz=>by
  rw [aBo hd hx] at hz
  exact gB hd _ z (wG hz)
 cases hr:tU dl oc dc [x0,x1,x2,x3,x4,x5] with
 | none =>
  rw [hr] at h2
  exact ⟨T',h1,bFf (z0:=0) (z1:=0) (z2:=0) (z3:=0) (z4:=0) (z5:=0) h2⟩
 | some z =>
  obtain ⟨a,b,c,d,e,f,rfl⟩:=A8 (hz z hr);rw [hr] at h2
  exact ⟨T',h1,bFf h2⟩
theorem bRv(hd:bV dc){x:List Int}(hx:x∈dc)(hC:∀ y∈bK dc (dN x),pK dl sk dc oc ov y):bNa dl sk dc oc ov x:=fun T hT=>by
 obtain ⟨T',h1,h2⟩:=bKm hd hx hC T hT;rw [← aBp hd hx] at h2
 obtain ⟨x0,x1,x2,x3,x4,x5,rfl⟩:=A8 (hd.ud x hx);have hz:∀ z,aGz dl oc dc [x0,x1,x2,x3,x4,x5]=some z→z.length=6:=fun z hz=>by
  rw [aBp hd hx] at hz
  exact gB hd _ z (wG hz)
 cases hr:aGz dl oc dc [x0,x1,x2,x3,x4,x5] with
 | none =>
  rw [hr] at h2
  exact ⟨T',h1,bFg (z0:=0) (z1:=0) (z2:=0) (z3:=0) (z4:=0) (z5:=0) h2⟩
 | some z =>
  obtain ⟨a,b,c,d,e,f,rfl⟩:=A8 (hz z hr);rw [hr] at h2
  exact ⟨T',h1,bFg h2⟩
theorem bFc(hd:bV dc)(hov:∀ n,sF ov n (oc.contains n)){x:List Int}(hx:x∈dc)(hC:∀ y∈bK dc (dN x),pK dl sk dc oc ov y):aSr dl sk dc oc ov x:=fun T hT=>by
 obtain ⟨T',h1,h2⟩:=bFb hd hx hC T hT;rw [bPu hd hx];obtain ⟨x0,x1,x2,x3,x4,x5,rfl⟩:=A8 (hd.ud x hx);have hz:∀ z,tU dl oc dc [x0,x1,x2,x3,x4,x5]=some z→z.length=6:=fun z hz=>by
  rw [aBo hd hx] at hz
  exact gB hd _ z (wG hz)
 cases hr:tU dl oc dc [x0,x1,x2,x3,x4,x5] with
 | none =>
  rw [hr] at h2
  exact ⟨T',h1,bSk (z0:=0) (z1:=0) (z2:=0) (z3:=0) (z4:=0) (z5:=0) h2 rfl (hov _)⟩
 | some z =>
  obtain ⟨a,b,c,d,e,f,rfl⟩:=A8 (hz z hr);rw [hr] at h2
  exact ⟨T',h1,bSj h2 rfl rfl⟩
abbrev oV(dl:Int)(oc:List Int)(dc:Lqq)(x y:List Int):Bool:=vF x y && dI dl oc dc y && (dK y == 5 || aGy dl oc dc y)
theorem bFd{x0 x1 x2 x3 x4 x5:Int}(hd:bV dc)(l:Lqq)(hu:uni 6 l)(hl:l.length≤1000)(hC:∀ y∈l,pK dl sk dc oc ov y)(hU:∀ y∈l,aSr dl sk dc oc ov y)(T:Lqb)(hT:cA dl oc dc T)(is:Bool) :
  ∃ T',cA dl oc dc T'∧aG Tp 7 (sub (cd Tryz.f100) bw) (cH dl sk dc ov x0 x1 x2 x3 x4 x5 is 0 l l.length (aK T) T.length) (.exit 0) (cH dl sk dc ov x0 x1 x2 x3 x4 x5 (is && !(l.any (oV dl oc dc [x0,x1,x2,x3,x4,x5]))) l.length l l.length (aK T') T'.length):=by
 have hx:∀ i,i<l.length→∃ a b c d e f,l[i]? = some [a,b,c,d,e,f]∧[a,b,c,d,e,f]∈l:=fun i hi=>by
  obtain ⟨a,b,c,d,e,f,h⟩:=A8 (hu _ (gJ hi));have h1:l[i]? = some [a,b,c,d,e,f]:=by rw [Aq hi,h]
  exact ⟨a,b,c,d,e,f,h1,Bi h1⟩
 have et:∀ i y,l[i]? = some y→(l.take (i+1)).any (oV dl oc dc [x0,x1,x2,x3,x4,x5])=((l.take i).any (oV dl oc dc [x0,x1,x2,x3,x4,x5]) || oV dl oc dc [x0,x1,x2,x3,x4,x5] y):=fun i y h=>by
  rw [List.take_add_one,h,List.any_append];simp
 obtain ⟨acc, ⟨h1,h2⟩,h3⟩:=aG.ex (P:=Tp) (k:=7) (b:=sub (cd Tryz.f100) bw) (e := .exit 0) (fun i (a:Bool × Lqb)=>cH dl sk dc ov x0 x1 x2 x3 x4 x5 a.1 i l l.length (aK a.2) a.2.length)
  (fun a=>cH dl sk dc ov x0 x1 x2 x3 x4 x5 a.1 l.length l l.length (aK a.2) a.2.length) (fun i a=>cA dl oc dc a.2∧a.1=(is && !((l.take i).any (oV dl oc dc [x0,x1,x2,x3,x4,x5])))) (by simp) l.length
  (fun i acc hi hI=>by
   obtain ⟨b,T1⟩:=acc;obtain ⟨h1,h2⟩:=hI;dsimp only at h1 h2
   obtain ⟨a,k,c,d,e,f,g1,g3⟩:=hx i hi;rw [et i _ g1];cases hb:b with
   | false =>
    rw [hb] at h2
    have hI:∀ q:Bool,false=(is && !((l.take i).any (oV dl oc dc [x0,x1,x2,x3,x4,x5]) || q)):=fun q=>by
     revert h2;cases is <;> cases (l.take i).any (oV dl oc dc [x0,x1,x2,x3,x4,x5]) <;> cases q <;> simp
    by_cases h5:k=5
    ·exact ⟨(false,T1),⟨h1,hI _⟩,aYz (by omega) g1 hu h5 rfl (aN (by omega)) rfl⟩
    ·by_cases h7:k=7
     ·exact ⟨(false,T1),⟨h1,hI _⟩,aZe (by omega) g1 hu h5 h7 rfl (aN (by omega)) rfl⟩
     ·exact ⟨(false,T1),⟨h1,hI _⟩,aZg (by omega) g1 hu h5 h7 rfl (aN (by omega)) rfl⟩
   | true =>
    rw [hb] at h2
    have hI:∀ q:Bool,(!q)=(is && !((l.take i).any (oV dl oc dc [x0,x1,x2,x3,x4,x5]) || q)):=fun q=>by
     revert h2;cases is <;> cases (l.take i).any (oV dl oc dc [x0,x1,x2,x3,x4,x5]) <;> cases q <;> simp
    have hIt:∀ q:Bool,q=true→false=(is && !((l.take i).any (oV dl oc dc [x0,x1,x2,x3,x4,x5]) || q)):=fun q hq=>by
     rw [← hI,hq];rfl
    have hIf:∀ q:Bool,q=false→true=(is && !((l.take i).any (oV dl oc dc [x0,x1,x2,x3,x4,x5]) || q)):=fun q hq=>by
     rw [← hI,hq];rfl
    obtain ⟨T2,q1,q2⟩:=hC _ g3 T1 h1
    by_cases h5:k=5
    ·cases hc:dI dl oc dc [a,k,c,d,e,f] with
     | true =>
      rw [hc] at q2
      exact ⟨(false,T2),⟨q1,hIt _ (by subst h5;simp [oV,vF,hc])⟩,aYx (by omega) g1 hu h5 rfl q2 rfl (aN (by omega)) rfl rfl rfl⟩
     | false =>
      rw [hc] at q2
      exact ⟨(true,T2),⟨q1,hIf _ (by simp [oV,hc])⟩,aYy (by omega) g1 hu h5 rfl q2 rfl (aN (by omega)) rfl rfl rfl⟩
    ·by_cases h7:k=7
     ·cases hr:cJ x1 with
      | true=>exact ⟨(true,T1),⟨h1,hIf _ (by simp [oV,vF,hr,h5])⟩,aZd (by omega) g1 hu h5 h7 rfl hr (aN (by omega)) rfl⟩
      | false =>
       cases hc:dI dl oc dc [a,k,c,d,e,f] with
       | true =>
        rw [hc] at q2
        obtain ⟨T3,q3,q4⟩:=hU _ g3 T2 q1;cases Hy:aGy dl oc dc [a,k,c,d,e,f] with
        | true =>
         rw [Hy] at q4
         exact ⟨(false,T3),⟨q3,hIt _ (by subst h7;simp [oV,vF,hc,hr,Hy])⟩,aZa (by omega) g1 hu h5 h7 rfl hr q2 rfl q4 rfl (aN (by omega)) rfl rfl rfl⟩
        | false =>
         rw [Hy] at q4
         exact ⟨(true,T3),⟨q3,hIf _ (by simp [oV,vF,Hy,h5])⟩,aZb (by omega) g1 hu h5 h7 rfl hr q2 rfl q4 rfl (aN (by omega)) rfl rfl rfl⟩
       | false =>
        rw [hc] at q2
        exact ⟨(true,T2),⟨q1,hIf _ (by simp [oV,hc])⟩,aZc (by omega) g1 hu h5 h7 rfl hr q2 rfl (aN (by omega)) rfl rfl rfl⟩
     ·exact ⟨(true,T1),⟨h1,hIf _ (by simp [oV,vF,h5,h7])⟩,aZf (by omega) g1 hu h5 h7 rfl (aN (by omega)) rfl⟩)
  (fun acc hI=>aPr (by omega)) (acc:=(is,T)) ⟨hT,by simp⟩
 obtain ⟨b,T1⟩:=acc;dsimp only at h1 h2 h3
 rw [List.take_length] at h2
 rw [h2] at h3
 exact ⟨T1,h1,h3⟩
theorem bRw(hd:bV dc){x:List Int}(hx:x∈dc)(hC:∀ y∈bK dc (dN x),pK dl sk dc oc ov y)(hU:∀ y∈bK dc (dN x),aSr dl sk dc oc ov y):pK dl sk dc oc ov x:=fun T hT=>by
 have hn:=eV hd hx;have hk:=aHk hd hn;obtain ⟨x0,x1,x2,x3,x4,x5,rfl⟩:=A8 (hd.ud x hx);obtain ⟨T',h1,hL⟩:=bFd (x0:=x0) (x1:=x1) (x2:=x2) (x3:=x3) (x4:=x4) (x5:=x5) hd (bK dc (dN [x0,x1,x2,x3,x4,x5])) (gB hd _) (wW hd _) hC hU T hT (!sP dl [x0,x1,x2,x3,x4,x5]);have hc:(!sP dl [x0,x1,x2,x3,x4,x5] && !((bK dc (dN [x0,x1,x2,x3,x4,x5])).any (oV dl oc dc [x0,x1,x2,x3,x4,x5])))=dI dl oc dc [x0,x1,x2,x3,x4,x5]:=(bPt hd hx).symm;rw [hc] at hL
 cases hh:cW (aK T) (.int .i64 (dN [x0,x1,x2,x3,x4,x5])) with
 | true=>exact ⟨T,hT,bSe (hT.keys hd hn) hh (hT.look hd hx hh)⟩
 | false =>
  cases M8:cW (aK T') (.int .i64 (dN [x0,x1,x2,x3,x4,x5])) with
  | true =>
   refine ⟨T',h1,?_⟩
   rcases aHl hd (n:=dN [x0,x1,x2,x3,x4,x5]) (by omega) with ⟨a1,a2⟩ | ⟨a1,a2⟩
   ·have:=bSf (x0:=x0) (hT.keys hd hn) hh hk a1 a2 hL (h1.keys hd hn) M8
    rw [show oB (aK T') (.int .i64 x0) (blP (dI dl oc dc [x0,x1,x2,x3,x4,x5]))=aK T' from h1.again hd hx] at this
    exact this
   ·rw [a2] at hL
    have:=bSh (x0:=x0) (hT.keys hd hn) hh hk a1 hL (h1.keys hd hn) M8;rw [show oB (aK T') (.int .i64 x0) (blP (dI dl oc dc [x0,x1,x2,x3,x4,x5]))=aK T' from h1.again hd hx] at this
    exact this
  | false =>
   refine ⟨T'++[(x0,dI dl oc dc [x0,x1,x2,x3,x4,x5])],h1.put hx M8,?_⟩;have e1:(T'++[(x0,dI dl oc dc [x0,x1,x2,x3,x4,x5])]).length=T'.length+1:=by simp
   unfold qZ oW;rw [aWq,e1]
   rcases aHl hd (n:=dN [x0,x1,x2,x3,x4,x5]) (by omega) with ⟨a1,a2⟩ | ⟨a1,a2⟩
   ·exact bSg (hT.keys hd hn) hh hk a1 a2 hL (h1.keys hd hn) M8
   ·rw [a2] at hL
    exact bSi (hT.keys hd hn) hh hk a1 hL (h1.keys hd hn) M8
theorem qX(hd:bV dc){x y:List Int}(hx:x∈dc)(hy:y∈bK dc (dN x)):y∈dc∧dN x<dN y:=by
 obtain ⟨h1,h2⟩:=dX hy;exact ⟨h1,bDp hd h1 h2 (eV hd hx).1⟩
theorem aHm(hd:bV dc)(hov:∀ n,sF ov n (oc.contains n)):∀ (n:Nat) (x:List Int),x∈dc→10000-dN x≤(n:Int)→pK dl sk dc oc ov x
 | 0,x,hx,h=>by have:=eV hd hx;omega
 | n+1,x,hx,h=>bRw hd hx (fun y hy=>by
   obtain ⟨h1,h2⟩:=qX hd hx hy;exact aHm hd hov n y h1 (by omega)) (fun y hy=>by
   obtain ⟨h1,h2⟩:=qX hd hx hy;exact bFc hd hov h1 fun z hz=>by
    obtain ⟨h3,h4⟩:=qX hd h1 hz;exact aHm hd hov n z h3 (by omega))
theorem bFe(hd:bV dc)(hov:∀ n,sF ov n (oc.contains n)){x:List Int}(hx:x∈dc):pK dl sk dc oc ov x:=aHm hd hov 10000 x hx (by have:=eV hd hx;omega)
theorem bWa(hd:bV dc)(hov:∀ n,sF ov n (oc.contains n)){x:List Int}(hx:x∈dc):bMz dl sk dc oc ov x:=bFb hd hx fun y hy=>bFe hd hov (dX hy).1
theorem bWb(hd:bV dc)(hov:∀ n,sF ov n (oc.contains n)){x:List Int}(hx:x∈dc):bNa dl sk dc oc ov x:=bRv hd hx fun y hy=>bFe hd hov (dX hy).1
theorem bWc(hd:bV dc)(hov:∀ n,sF ov n (oc.contains n)){x:List Int}(hx:x∈dc):aSr dl sk dc oc ov x:=bFc hd hov hx fun y hy=>bFe hd hov (dX hy).1
theorem aSs(hd:bV dc)(hov:∀ n,sF ov n (oc.contains n)):∀ (n:Nat) (x:List Int),x∈dc→10000-dN x≤(n:Int)→bNb dl sk dc oc ov x
 | 0,x,hx,h=>by have:=eV hd hx;omega
 | n+1,x,hx,h=>fun T hT=>by
  obtain ⟨T',h1,h2⟩:=bWb (dl:=dl) (sk:=sk) hd hov hx T hT;rw [aSe hd hx];cases hr:aGz dl oc dc x with
  | none =>
   rw [hr] at h2
   obtain ⟨x0,x1,x2,x3,x4,x5,rfl⟩:=A8 (hd.ud x hx);exact ⟨T',h1,bSm (z0:=0) (z1:=0) (z2:=0) (z3:=0) (z4:=0) (z5:=0) h2 rfl⟩
  | some z =>
   have hz:z∈bK dc (dN x):=by
    rw [aBp hd hx] at hr
    exact wG hr
   obtain ⟨a1,a2⟩:=qX hd hx hz;obtain ⟨T2,h3,h4⟩:=aSs hd hov n z a1 (by omega) T' h1
   rw [hr] at h2
   obtain ⟨x0,x1,x2,x3,x4,x5,rfl⟩:=A8 (hd.ud x hx);obtain ⟨a,b,c,d,e,f,rfl⟩:=A8 (hd.ud z a1);exact ⟨T2,h3,bSl h2 rfl h4⟩
theorem bWd(hd:bV dc)(hov:∀ n,sF ov n (oc.contains n)){x:List Int}(hx:x∈dc):bNb dl sk dc oc ov x:=aSs hd hov 10000 x hx (by have:=eV hd hx;omega)
theorem aHn(n:Int):sF dZ n (([]:List Int).contains n):=fun base=>FV.argwk (oS [] n (by simp)) (by kernel_rfl)
theorem aCa{l:List Int}(hl:l.length≤1000)(n:Int):sF (aH l) n (l.contains n):=fun base=>oS l n hl
end
end
section
variable {P:Program} {T:TT} {E:Env} {C C0:Cx} {M M0 M1:Mem} {w w0:World}

def bkN(all:List Nat)(j:Nat):Option Nat:=all[j]?
def sG(F9:List Nat):List Nat→Mem→Option Upd
 | i::r,some o::m=>match mpO (bkN F9) o with
  | some o'=>(sG F9 r m).map ((i,o') :: ·)
  | none=>none
 | [],[]=>some []
 | _,_=>none

theorem aFb{F9:List Nat}:∀ {ids:List Nat} {m:Mem} {L:Upd},sG F9 ids m=some L→ids.Nodup →
  m.length=ids.length ∧
  ∀ (N:Mem),(∀ (p i:Nat) (o':AO),ids[p]? = some i→(bH (upds N L) i=some o'↔∃ o,m[p]? = some (some o)∧mpO (bkN F9) o=some o')) ∧
   ∀ j,j∉ids→bH (upds N L) j=bH N j
 | [],[],L,h,_=>by
  unfold sG at h;cases h
  refine ⟨rfl,fun N=>⟨fun p i o' hp=>by simp at hp,fun _ _=>rfl⟩⟩
 | i::r,some o::m,L,h,hd=>by
  unfold sG at h
  split at h
  ·rename_i o' ho
   simp only [kI] at h
   obtain ⟨L',J9,rfl⟩:=h;obtain ⟨Jm,Jl⟩:=List.nodup_cons.1 hd;obtain ⟨q1,q2⟩:=aFb (ids:=r) J9 Jl;refine ⟨by simpa using q1,fun N => ?_⟩
   obtain ⟨r1,r4⟩:=q2 (aU N i (some o'));refine ⟨fun p j o2 hp => ?_,fun j hj => ?_⟩
   ·cases p with
    | zero =>
     simp at hp;subst hp
     simp only [upds];rw [r4 i Jm,cI,if_pos rfl];constructor
     ·intro h;cases h;exact ⟨o,rfl,ho⟩
     ·rintro ⟨o3,h3,h4⟩
      simp at h3;subst h3
      rw [ho] at h4;exact h4
    | succ p =>
     simp only [upds];rw [List.getElem?_cons_succ] at hp
     rw [r1 p j o2 hp];rfl
   ·simp only [upds]
    rw [r4 j (fun e=>hj (Cj _ e)),cI,if_neg (fun e=>hj (by simp [e]))]
  ·cases h
 | [],_::_,L,h,_=>by unfold sG at h;cases h
 | _::_,[],L,h,_=>by unfold sG at h;cases h
 | _::_,none::_,L,h,_=>by unfold sG at h;cases h

theorem aCb{F9:List Nat}:∀ {ids:List Nat} {m:Mem} {L:Upd},sG F9 ids m=some L→∀ (p:Nat) (o1:AO),m[p]? = some (some o1)→∃ o',mpO (bkN F9) o1=some o'
 | [],[],L,h,p,o1,hp=>by simp at hp
 | i::r,some o::m,L,h,p,o1,hp=>by
  unfold sG at h
  split at h
  ·rename_i hx
   simp only [kI] at h
   obtain ⟨L',J9,_⟩:=h;cases p with
   | zero=>simp at hp;subst hp;exact ⟨_,hx⟩
   | succ p=>exact aCb J9 p o1 (by simpa using hp)
  ·cases h
 | [],_::_,L,h,_,_,_=>by unfold sG at h;cases h
 | _::_,[],L,h,_,_,_=>by unfold sG at h;cases h
 | _::_,none::_,L,h,_,_,_=>by unfold sG at h;cases h

def Cx.backN(C C1:Cx)(all:List Nat):Cx :=
 {ι:=fun j=>match idx all j 0 with | some p=>C1.ι p | none=>C.ι j
  κ:=fun j=>match idx all j 0 with | some p=>C1.κ p | none=>C.κ j
  F:=C1.F }

theorem bFh{ids news:List Nat}{r y:AV}{L:Upd}{C1:Cx}{w':World}{u:Value}(hd:distinct 0 ids=true)(hda:distinct 0 (ids++news)=true)(hb:∀ i∈news,eL M i=true)
  (hs:rnM 0 ids (ids.map (at? M))=some M0) (hlv:∀ i∈ids,dR M i=true) (hU:sG (ids++news) (ids++news) M1=some L) (hy:mpA (bkN (ids++news)) r=some y)
  (hM:aP P C M w) (hF:Fr (C.rn 0 ids) M0 w C1 M1 w') (Bp:aP P C1 M1 w') (hr:Rep C1 M1 w' r u):Fr C M w (C.backN C1 (ids++news)) (upds M L) w'∧aP P (C.backN C1 (ids++news)) (upds M L) w'∧Rep (C.backN C1 (ids++news)) (upds M L) w' y u:=by
 obtain ⟨_,hnd⟩:=gU hd;obtain ⟨_,hna⟩:=gU hda;obtain ⟨Cc,hmp,hsrc⟩:=pP (k:=0) hM hd hs;have hlen:M0.length=ids.length:=by have:=(zN hs).1;simpa using this
 generalize hall:ids++news=all at *
 obtain ⟨A4,hup⟩:=aFb hU hna;obtain ⟨u1,u4⟩:=hup M;have hL:=Cc.le hF;have inA:∀ (p i:Nat),ids[p]? = some i→all[p]? = some i:=fun p i h=>by
  rw [← hall,aAz (Bc.1 h).1];exact h
 have memA:∀ i,i∈all↔i∈ids∨i∈news:=fun i=>by rw [← hall];simp
 have newF:∀ (p i:Nat),all[p]? = some i→i∉ids→eL M i=true:=fun p i h hn=>by
  rcases (memA i).1 (Bi h) with h | h
  ·exact absurd h hn
  ·exact hb i h
 have oldP:∀ (p i:Nat),all[p]? = some i→i∈ids→ids[p]? = some i:=fun p i h hn=>by
  obtain ⟨q,hq,he⟩:=List.mem_iff_getElem.1 hn;have h2:ids[q]? = some i:=by rw [Aq hq,he]
  have e1:=oO hna 0 h;have e2:=oO hna 0 (inA q i h2);rw [e1] at e2
  have:p=q:=by simpa using e2
  rw [this];exact h2
 have rnp:∀ p i,ids[p]? = some i→rnI 0 ids i=some p:=fun p i h=>by
  have:=oO hnd 0 h;unfold rnI;rw [show Nat.blt i 0=false from rfl,this,fG]
 have Cl:∀ p i,ids[p]? = some i→∃ o o0,M[i]? = some (some o)∧o.live=true∧M0[p]? = some (some o0)∧o0.live=true∧(C.rn 0 ids).ι p=C.ι i∧(C.rn 0 ids).κ p=C.κ i:=fun p i hp=>by
  obtain ⟨o,h1,h2⟩:=cY (hlv i (Bi hp));obtain ⟨o0,h3,h4⟩:=hmp.fw _ _ _ (rnp p i hp) h1;exact ⟨o,o0,h1,h2,h3,by rw [bD h4];exact h2,hmp.at_ _ _ (rnp p i hp)⟩
 have sh_of:∀ (p:Nat) (o0:AO),M0[p]? = some (some o0)→∃ i o,ids[p]? = some i∧M[i]? = some (some o)∧o.live=true∧o0.live=true∧(C.rn 0 ids).ι p=C.ι i:=fun p o0 hp=>by
  obtain ⟨hl,_⟩:=Bc.1 hp;have He:ids[p]? = some ids[p]:=Aq (by omega)
  obtain ⟨o,o1,h1,h2,h3,h4,h5,_⟩:=Cl p _ He;rw [hp] at h3;cases h3
  exact ⟨_,o,He,h1,h2,h4,h5⟩
 have apart:∀ (j:Nat) (o:AO) (b:Nat),j∉ids→M[j]? = some (some o)→o.live=true→C.ι j=some b→w'.heap[b]? = w.heap[b]? ∧ ¬ C1.F b∧∀ (p:Nat) (o1:AO),M1[p]? = some (some o1)→o1.live=true→C1.ι p≠some b:=fun j o b hj h1 h2 h3=>by
  have Ci:=hM.lt j o b h1 h2 h3;have Ka:∀ (p:Nat) (o0:AO),M0[p]? = some (some o0)→o0.live=true→(C.rn 0 ids).ι p≠some b:=fun p o0 hp _ he=>by
   obtain ⟨i,o2,q1,q2,q3,_,q4⟩:=sh_of p o0 hp;rw [q4] at he
   have:=hM.inj j i o o2 b h1 h2 q2 q3 h3 he;subst this;exact hj (Bi q1)
  refine ⟨hF.keep b Ci Ka,fun hf => ?_,fun p o1 hp hl he => ?_⟩
  ·rcases hF.F2 b hf with q | q | ⟨p,o0,q1,q2,q3⟩
   ·exact hM.nF j o b h1 h2 h3 q
   ·omega
   ·exact Ka p o0 q1 q2 q3
  ·rcases hF.new p o1 b hp hl he with q | ⟨p0,o0,q1,q2,q3⟩
   ·omega
   ·exact Ka p0 o0 q1 q2 q3
 have ix:∀ j,(j∈all→∃ p,idx all j 0=some p∧all[p]? = some j)∧(j∉all→idx all j 0=none):=fun j=>by
  refine ⟨fun hj => ?_,fun hj => ?_⟩
  ·obtain ⟨p,hp,he⟩:=List.mem_iff_getElem.1 hj
   have:all[p]? = some j:=by rw [Aq hp,he]
   exact ⟨p,by simpa using oO hna 0 this,this⟩
  ·cases h1:idx all j 0 with
   | none=>rfl
   | some p =>
    obtain ⟨_,h2⟩:=uE _ _ _ _ h1;exact absurd (Bi h2) hj
 have cls:∀ (j:Nat) (o':AO),(upds M L)[j]? = some (some o')→(∃ p o1,all[p]? = some j∧M1[p]? = some (some o1)∧mpO (bkN all) o1=some o'∧(C.backN C1 all).ι j=C1.ι p∧(C.backN C1 all).κ j=C1.κ p) ∨
   (j∉ids∧j∉all∧M[j]? = some (some o')∧(C.backN C1 all).ι j=C.ι j∧(C.backN C1 all).κ j=C.κ j):=fun j o' hj=>by
  rw [← aZ] at hj
  by_cases hm:j∈all
  ·obtain ⟨p,Hn,Hf⟩:=(ix j).1 hm
   obtain ⟨o1,h1,h2⟩:=(u1 p j o' Hf).1 hj;exact .inl ⟨p,o1,Hf,h1,h2,by simp [Cx.backN,Hn],by simp [Cx.backN,Hn]⟩
  ·have hn:=(ix j).2 hm
   rw [u4 j hm] at hj
   exact .inr ⟨fun h=>hm ((memA j).2 (.inl h)),hm,aZ.1 hj,by simp [Cx.backN,hn],by simp [Cx.backN,hn]⟩
 have Fq:Fr C M w (C.backN C1 all) (upds M L) w':=by
  refine ⟨hF.os,hF.tape,hF.out,hF.size,fun b Ci hn => ?_,fun i o ho => ?_,fun i o ho ty n cs hx => ?_,fun i o ho o' hx hl => ?_,fun j o b hj hl hjb => ?_,fun b hb=>hF.F1 b hb,fun b hb => ?_⟩
  ·exact hF.keep b Ci fun p o0 hp hl he=>by
    obtain ⟨i,o2,q1,q2,q3,_,q4⟩:=sh_of p o0 hp;rw [q4] at he
    exact hn i o2 q2 q3 he
  ·by_cases hm:i∈all
   ·obtain ⟨p,Hn,Hf⟩:=(ix i).1 hm
    have hmi:i∈ids:=Classical.byContradiction fun hni=>cC (newF p i Hf hni) o ho
    obtain ⟨_,o0,_,_,h3,h4,h5,h6⟩:=Cl p i (oldP p i Hf hmi);obtain ⟨⟨o1,q1⟩,q2,q3⟩:=hF.ids p o0 h3;refine ⟨?_,by simp only [Cx.backN,Hn];rw [q2,h5],by simp only [Cx.backN,Hn];rw [q3,h6]⟩
    obtain ⟨o',hq⟩:=aCb hU p o1 q1;exact ⟨o',aZ.1 ((u1 p i o' Hf).2 ⟨o1,q1,hq⟩)⟩
   ·refine ⟨⟨o,aZ.1 (by rw [u4 i hm];exact aZ.2 ho)⟩,by simp [Cx.backN,(ix i).2 hm],by simp [Cx.backN,(ix i).2 hm]⟩
  ·rcases cls i _ hx with ⟨p,o1,q1,q2,q3,_⟩ | ⟨_,_,q3,_⟩
   ·have hmi:i∈ids:=Classical.byContradiction fun hni=>cC (newF p i q1 hni) o ho
    have q1:=oldP p i q1 hmi;rw [kC q3] at q2
    obtain ⟨o2,o0,h1,_,h3,_⟩:=Cl p i q1;obtain ⟨Bh,h5⟩:=hF.row p o0 h3 _ _ _ q2;obtain ⟨o4,h6,h7⟩:=hmp.bk _ _ _ (rnp p i q1) h5;rw [kC h7] at h6
    exact ⟨Bh,h6⟩
   ·exact ⟨cs,q3⟩
  ·rcases cls i _ hx with ⟨p,o1,q1,q2,q3,_⟩ | ⟨_,_,q3,_⟩
   ·have hmi:i∈ids:=Classical.byContradiction fun hni=>cC (newF p i q1 hni) o ho
    obtain ⟨o2,o0,h1,h2,h3,_⟩:=Cl p i (oldP p i q1 hmi);rw [ho] at h1;cases h1
    exact h2
   ·rw [ho] at q3;cases q3;exact hl
  ·have fin:∀ (p:Nat) (o1:AO),M1[p]? = some (some o1)→o1.live=true→C1.ι p=some b→w.heap.size≤b∨∃ (Gi:Nat) (o0:AO),M[Gi]? = some (some o0)∧o0.live=true∧C.ι Gi=some b:=fun p o1 h1 h2 h3=>by
    rcases hF.new p o1 b h1 h2 h3 with q | ⟨p0,o0,q1,q2,q3⟩
    ·exact .inl q
    ·obtain ⟨i,o2,r1,r2,r3,_,r4⟩:=sh_of p0 o0 q1
     rw [r4] at q3
     exact .inr ⟨i,o2,r2,r3,q3⟩
   rcases cls j _ hj with ⟨p,o1,q1,q2,q3,q4,_⟩ | ⟨_,_,q3,q4,_⟩
   ·rw [q4] at hjb
    exact fin p o1 q2 (by rw [← bD q3];exact hl) hjb
   ·rw [q4] at hjb
    exact .inr ⟨j,o,q3,hl,hjb⟩
  ·rcases hF.F2 b hb with q | q | ⟨p,o0,q1,q2,q3⟩
   ·exact .inl q
   ·exact .inr (.inl q)
   ·obtain ⟨i,o2,r1,r2,r3,_,r4⟩:=sh_of p o0 q1
    rw [r4] at q3
    exact .inr (.inr ⟨i,o2,r2,r3,q3⟩)
 have Fz:=hM.le Fq;have hbk:aTu (bkN all) C1 (C.backN C1 all) M1 (upds M L):=by
  refine ⟨fun i j o' hij hj=>(u1 i j o' hij).1 (aZ.2 hj),fun i j o hij hi => ?_,fun i j hij => ?_,fun _ h=>h⟩
  ·obtain ⟨o',hq⟩:=aCb hU i o hi
   exact ⟨o',aZ.1 ((u1 i j o' hij).2 ⟨o,hi,hq⟩),hq⟩
  ·have:=oO hna 0 hij
   rw [fG] at this
   simp [Cx.backN,this]
 refine ⟨Fq,⟨fun j ty n cs h => ?_,fun j ty cs h => ?_,fun j es cl h => ?_,fun j j' o1 o2 b q1 l1 q2 l2 e1 e2 => ?_,fun j o b h hl hb => ?_,Bp.Fs,fun j o b h hl hb => ?_⟩,rJ hbk hr hy⟩
 ·rcases cls j _ h with ⟨p,o1,q1,q2,q3,q4,q5⟩ | ⟨q1,_,q3,q4,q5⟩
  ·rw [kC q3] at q2
   rw [q4,q5];exact Bp.row _ _ _ _ q2
  ·rw [q4,q5]
   rcases hM.row _ _ _ _ q3 with q | ⟨b,arr,inf,p0,p1,p2,p3,p4,p5,p6,p7,p8⟩
   ·exact .inl q
   ·exact .inr ⟨b,arr,inf,p0,by rw [(apart j _ b q1 q3 rfl p0).1];exact p1,p2,p3,p4,p5,p6,fun i hi=>(p7 i hi).mono Fz.F Fz.fz,p8⟩
 ·rcases cls j _ h with ⟨p,o1,q1,q2,q3,q4,q5⟩ | ⟨q1,_,q3,q4,q5⟩
  ·cases o1 with
   | box Cn l =>
    simp only [mpO,kI] at q3
    obtain ⟨l',Dj,e⟩:=q3;cases e;obtain ⟨b,arr,p0,p1,p2,p3,p4⟩:=Bp.box _ _ _ q2;obtain ⟨n1,n2⟩:=eZ hbk (w:=w') (us:=fun j=>arr.getD j undef) p3 Dj
    exact ⟨b,arr,by rw [q4];exact p0,p1,by omega,n2,fun j hj=>p4 j (by omega)⟩
   | row=>simp [mpO] at q3
   | mp=>simp [mpO] at q3
   | pk=>simp [mpO] at q3
   | dead=>simp [mpO] at q3
  ·obtain ⟨b,arr,p0,p1,p2,p3,p4⟩:=hM.box _ _ _ q3
   exact ⟨b,arr,by rw [q4];exact p0,by rw [(apart j _ b q1 q3 rfl p0).1];exact p1,p2,fun i hi=>(p3 i hi).mono Fz,p4⟩
 ·rcases cls j _ h with ⟨p,o1,q1,q2,q3,q4,q5⟩ | ⟨q1,_,q3,q4,q5⟩
  ·cases o1 with
   | mp B2 Da =>
    simp only [mpO,Option.some.injEq] at q3
    cases q3;obtain ⟨b,arr,p0,p1,p2,p3⟩:=Bp.mp _ _ _ q2;refine ⟨b,arr,by rw [q4];exact p0,p1,p2,fun j hj => ?_⟩
    obtain ⟨en,s1,s2,s3,s4⟩:=p3 j hj;exact ⟨en,s1,s2,s3,s4.mono hbk.F (fun _ _=>rfl)⟩
   | row=>simp [mpO] at q3
   | box=>simp [mpO] at q3
   | pk=>simp [mpO] at q3
   | dead=>simp [mpO] at q3
  ·obtain ⟨b,arr,p0,p1,p2,p3⟩:=hM.mp _ _ _ q3
   refine ⟨b,arr,by rw [q4];exact p0,by rw [(apart j _ b q1 q3 rfl p0).1];exact p1,p2,fun i hi => ?_⟩
   obtain ⟨en,s1,s2,s3,s4⟩:=p3 i hi;exact ⟨en,s1,s2,s3,s4.mono Fz.F Fz.fz⟩
 ·rcases cls j _ q1 with ⟨p,a1,r1,r2,r3,r4,_⟩ | ⟨r1,rb,r3,r4,_⟩ <;> rcases cls j' _ q2 with ⟨p',a2,t1,t2,t3,t4,_⟩ | ⟨t1,tb,t3,t4,_⟩
  all_goals (rw [r4] at e1;rw [t4] at e2)
  ·have:=Bp.inj p p' a1 a2 b r2 (by rw [← bD r3];exact l1) t2 (by rw [← bD t3];exact l2) e1 e2
   subst this;rw [r1] at t1;cases t1;rfl
  ·exact absurd e1 ((apart j' o2 b t1 t3 l2 e2).2.2 p a1 r2 (by rw [← bD r3];exact l1))
  ·exact absurd e2 ((apart j o1 b r1 r3 l1 e1).2.2 p' a2 t2 (by rw [← bD t3];exact l2))
  ·exact hM.inj j j' o1 o2 b r3 l1 t3 l2 e1 e2
 ·rcases cls j _ h with ⟨p,o1,q1,q2,q3,q4,q5⟩ | ⟨q1,_,q3,q4,q5⟩
  ·rw [q4] at hb
   exact Bp.nF _ _ b q2 (by rw [← bD q3];exact hl) hb
  ·rw [q4] at hb
   exact (apart j o b q1 q3 hl hb).2.1
 ·rcases cls j _ h with ⟨p,o1,q1,q2,q3,q4,q5⟩ | ⟨q1,_,q3,q4,q5⟩
  ·rw [q4] at hb
   exact Bp.lt _ _ b q2 (by rw [← bD q3];exact hl) hb
  ·rw [q4] at hb
   exact Cg (hM.lt j o b q3 hl hb) hF.size

def aPs(ids news:List Nat)(args:List AV)(bs:Upd)(M1:Mem)(r:AV):Option (List AV × Mem × AV × Upd):=match distinct 0 ids && distinct 0 (ids++news) && ids.all (dR (upds [] bs)) with
 | true=>match rnM 0 ids (ids.map (at? (upds [] bs))) with
  | some M0=>match rnL 0 ids args with
   | some A0=>match sG (ids++news) (ids++news) M1 with
    | some L=>match mpA (bkN (ids++news)) r with
     | some y=>some (A0,M0,y,L)
     | none=>none
    | none=>none
   | none=>none
  | none=>none
 | false=>none
theorem FMM.fcN{f base k:Nat}(hk:Nat.ble k 8=true){ids:List Nat}{args A0:List AV}{bs:Upd}{r y:AV}{L:Upd}(h:FMM P f A0 M0 r M1)(hs:aPs ids ((List.range k).map (base + ·)) args bs M1 r=some (A0,M0,y,L)):FC P f args bs base y L:=fun M hb hf J4=>by
 unfold aPs at hs
 have hsub:aLw (upds [] bs) M:=fun id o ho=>by
  rcases pN bs [] id o ho with h5 | h5
  ·exact hb _ h5
  ·simp [bH] at h5
 split at hs
 ·rename_i hd
  rw [Bl,Bl,fU] at hd
  obtain ⟨⟨Jm,Jl⟩,Tj⟩:=hd;have hlv:∀ i∈ids,∃ o,bH (upds [] bs) i=some o∧bH M i=some o∧o.live=true:=fun i hi=>by
   obtain ⟨o,h1,h2⟩:=cY (Tj i hi);exact ⟨o,aZ.2 h1,hsub _ _ (aZ.2 h1),h2⟩
  split at hs
  ·rename_i h1
   split at hs
   ·rename_i h2
    split at hs
    ·rename_i h3
     split at hs
     ·rename_i h4
      cases hs;have he:ids.map (at? M)=ids.map (at? (upds [] bs)):=yL fun i hi=>by
       obtain ⟨o,q1,q2,_⟩:=hlv i hi;unfold at?
       rw [q1,q2]
      intro C w us hus hM n;have Hj:rnM 0 ids (ids.map (at? M))=some M0:=by rw [he];exact h1
      obtain ⟨Cc,hmp,_⟩:=pP (k:=0) hM Jm Hj;refine (h (C.rn 0 ids) w us (aGq hmp hus h2) Cc n).mono ?_;rintro e w' ⟨u,rfl,C1,hF,Bp,hr⟩;exact ⟨u,rfl,C.backN C1 (ids++(List.range k).map (base + ·)),bFh Jm Jl (fun i hi=>by
       obtain ⟨j,hj,rfl⟩:=dS.1 hi;have hj:=wJ.1 hj;have hk:=Nat.le_of_ble_eq_true hk;exact J4 j (by omega)) Hj (fun i hi=>by
       obtain ⟨o,_,q2,q3⟩:=hlv i hi;exact iD (aZ.1 q2) q3) h3 h4 hM hF Bp hr⟩
     ·cases hs
    ·cases hs
   ·cases hs
  ·cases hs
 ·cases hs
def qF(ids:List Nat)(base:Nat):=bkN (ids++(List.range 7).map (base+·))
def qN(ids:List Nat)(base:Nat)(x:AV):AV:=(mpA (qF ids base) x).getD .any
theorem mN(ids:List Nat)(base:Nat){P:Program}{f:Nat}{A0:List AV}{M0 M1:Mem}{r:AV}(h:FMM P f A0 M0 r M1)(hs:aPs ids ((List.range 7).map (base+·)) (A0.map (qN ids base)) (qS ids (qF ids base) (A0.map (qN ids base)) M0) M1 r=some (A0,M0,qN ids base r,(sG (ids++(List.range 7).map (base+·)) (ids++(List.range 7).map (base+·)) M1).getD []):=by kernel_rfl):FC P f (A0.map (qN ids base)) (qS ids (qF ids base) (A0.map (qN ids base)) M0) base (qN ids base r) ((sG (ids++(List.range 7).map (base+·)) (ids++(List.range 7).map (base+·)) M1).getD []):=FMM.fcN (k:=7) rfl h hs
end
section
variable {b0 out Ay G7 G8 El G0:Bool}{a b m r0 s0 s1 x0 x1 x2 x3 x4 x5 bib tot Au Dc Aa Ab Ac Ad Ae Af I7 I8 I9 Ja Jb Jc Dv:Int}{T t T1 t' C7 T107 T109 T113 T115:Lqb}{l o:List Int}{i i' Ei B0 base:Nat}{ov:PV}
variable {dl:Int}{sk dc:Lqq}

noncomputable abbrev jD:Code:=sub (cd Tryz.f95) [1,1,0,1,0,0]
noncomputable abbrev wV:Code:=sub (cd Tryz.f46) [1,1,1,0,1,0,0]
theorem bEt:0≤(0:Int)∧(0:Int)<5:=by first | decide | simp
theorem bEu:0≤(1:Int)∧(1:Int)<5:=by first | decide | simp
theorem bEv:0≤(2:Int)∧(2:Int)<5:=by first | decide | simp
theorem bEw:0≤(3:Int)∧(3:Int)<5:=by first | decide | simp
theorem bEx:0≤(4:Int)∧(4:Int)<5:=by first | decide | simp
abbrev yO(dl:Int)(sk dc:Lqq)(ov:PV)(x:List Int)(bib:Int)(b:Bool)(T T2:Lqb):Prop:=FMM Tp 164 [bRx,.p (.agg (x.map aA)),.p (aA bib)] (oW dl sk dc ov T) (pB b) (oW dl sk dc ov T2)
abbrev aDg(dl:Int)(sk dc:Lqq)(ov:PV)(s:List Int)(n:Int)(b:Bool)(T T2:Lqb):Prop:=FMM Tp 95 [qY dl sk dc,.p (.agg (s.map aA)),bRx] (oW dl sk dc ov T) (.tup [.p (aA n),.p (blP b)]) (oW dl sk dc ov T2)
section
variable(h0:(decide (x1≤4))=true)(h1:x3=bib)(h2:qZ dl sk dc ov [x0,x1,x2,x3,x4,x5] b0 T T1)
include h0 h1 h2
theorem bRi(h3:b0=true)(h4:x1≠4):FMM Tp 164 [(.agg [(.fn 100 [] [(.ptr 4 0),(.ptr 5 0),(.ptr 0 0),(.ptr 2 0)]),(.fn 102 [] [(.ptr 6 0)]),(.fn 103 [] [(.ptr 2 0),(.ptr 1 0)]),(.fn 106 [] [(.ptr 2 0)]),(.fn 104 [] [(.ptr 6 0)])]),(.p (dcE x0 x1 x2 x3 x4 x5)),(pI bib)] [some (.box 106 [(.rp (aF dl sk dc) 0)]),some (.box 31 [(.p ov)]),some (.box 119 [(.fn 100 [] [(.ptr 4 0),(.ptr 5 0),(.ptr 0 0),(.ptr 2 0)]),(.fn 102 [] [(.ptr 6 0)]),(.fn 103 [] [(.ptr 2 0),(.ptr 1 0)]),(.fn 106 [] [(.ptr 2 0)]),(.fn 104 [] [(.ptr 6 0)])]),some (.mp (aK T) T.length),some (.box 183 [(.mp 3)]),some (.box 115 [(.fn 98 [(.rp (aF dl sk dc) 0)] [])]),some (.box 185 [(.fn 99 [] [(.ptr 0 0),(.ptr 2 0)])])] (pB true) [some (.box 106 [(.rp (aF dl sk dc) 0)]),some (.box 31 [(.p ov)]),some (.box 119 [(.fn 100 [] [(.ptr 4 0),(.ptr 5 0),(.ptr 0 0),(.ptr 2 0)]),(.fn 102 [] [(.ptr 6 0)]),(.fn 103 [] [(.ptr 2 0),(.ptr 1 0)]),(.fn 106 [] [(.ptr 2 0)]),(.fn 104 [] [(.ptr 6 0)])]),some (.mp (aK T1) T1.length),some (.box 183 [(.mp 3)]),some (.box 115 [(.fn 98 [(.rp (aF dl sk dc) 0)] [])]),some (.box 185 [(.fn 99 [] [(.ptr 0 0),(.ptr 2 0)])])]:=have k1:=fk 9 (dU x1) rfl;have k2:=mq bz 9 h2;FMM.fi 7 gE func164 ([k1.o]++rT 9++[k2.o]++rT 12) (gc h3 (gc (qL h4) (gc h3 (Ba (qL h4) (Ba h3 (gc (eJ h1) (gc k2 (Ba (eJ h1) (Dp h0 (gc k1 gn))))))))))
theorem bRj{b2:Bool}{T3:Lqb}(h3:b0=true)(h4:x1=4)(h5:bKn dl sk dc ov [x0,x1,x2,x3,x4,x5] b2 T1 T3):FMM Tp 164 [(.agg [(.fn 100 [] [(.ptr 4 0),(.ptr 5 0),(.ptr 0 0),(.ptr 2 0)]),(.fn 102 [] [(.ptr 6 0)]),(.fn 103 [] [(.ptr 2 0),(.ptr 1 0)]),(.fn 106 [] [(.ptr 2 0)]),(.fn 104 [] [(.ptr 6 0)])]),(.p (dcE x0 x1 x2 x3 x4 x5)),(pI bib)] [some (.box 106 [(.rp (aF dl sk dc) 0)]),some (.box 31 [(.p ov)]),some (.box 119 [(.fn 100 [] [(.ptr 4 0),(.ptr 5 0),(.ptr 0 0),(.ptr 2 0)]),(.fn 102 [] [(.ptr 6 0)]),(.fn 103 [] [(.ptr 2 0),(.ptr 1 0)]),(.fn 106 [] [(.ptr 2 0)]),(.fn 104 [] [(.ptr 6 0)])]),some (.mp (aK T) T.length),some (.box 183 [(.mp 3)]),some (.box 115 [(.fn 98 [(.rp (aF dl sk dc) 0)] [])]),some (.box 185 [(.fn 99 [] [(.ptr 0 0),(.ptr 2 0)])])] (pB b2) [some (.box 106 [(.rp (aF dl sk dc) 0)]),some (.box 31 [(.p ov)]),some (.box 119 [(.fn 100 [] [(.ptr 4 0),(.ptr 5 0),(.ptr 0 0),(.ptr 2 0)]),(.fn 102 [] [(.ptr 6 0)]),(.fn 103 [] [(.ptr 2 0),(.ptr 1 0)]),(.fn 106 [] [(.ptr 2 0)]),(.fn 104 [] [(.ptr 6 0)])]),some (.mp (aK T3) T3.length),some (.box 183 [(.mp 3)]),some (.box 115 [(.fn 98 [(.rp (aF dl sk dc) 0)] [])]),some (.box 185 [(.fn 99 [] [(.ptr 0 0),(.ptr 2 0)])])]:=have k1:=fk 9 (dU x1) rfl;have k2:=mq bz 9 h2;have k3:=mq bz 9 h5;FMM.fi 7 gE func164 ([k1.o]++rT 9++[k2.o]++rT 5++[bF,bF,bF,bF,k3.o,bT,bF,bT]) (gc h3 (gc (eY h4) (gc h3 (gc k3 (Ba (eY h4) (Ba h3 (gc (eJ h1) (gc k2 (Ba (eJ h1) (Dp h0 (gc k1 gn)))))))))))
theorem bRk(h3:b0=false):FMM Tp 164 [(.agg [(.fn 100 [] [(.ptr 4 0),(.ptr 5 0),(.ptr 0 0),(.ptr 2 0)]),(.fn 102 [] [(.ptr 6 0)]),(.fn 103 [] [(.ptr 2 0),(.ptr 1 0)]),(.fn 106 [] [(.ptr 2 0)]),(.fn 104 [] [(.ptr 6 0)])]),(.p (dcE x0 x1 x2 x3 x4 x5)),(pI bib)] [some (.box 106 [(.rp (aF dl sk dc) 0)]),some (.box 31 [(.p ov)]),some (.box 119 [(.fn 100 [] [(.ptr 4 0),(.ptr 5 0),(.ptr 0 0),(.ptr 2 0)]),(.fn 102 [] [(.ptr 6 0)]),(.fn 103 [] [(.ptr 2 0),(.ptr 1 0)]),(.fn 106 [] [(.ptr 2 0)]),(.fn 104 [] [(.ptr 6 0)])]),some (.mp (aK T) T.length),some (.box 183 [(.mp 3)]),some (.box 115 [(.fn 98 [(.rp (aF dl sk dc) 0)] [])]),some (.box 185 [(.fn 99 [] [(.ptr 0 0),(.ptr 2 0)])])] (pB false) [some (.box 106 [(.rp (aF dl sk dc) 0)]),some (.box 31 [(.p ov)]),some (.box 119 [(.fn 100 [] [(.ptr 4 0),(.ptr 5 0),(.ptr 0 0),(.ptr 2 0)]),(.fn 102 [] [(.ptr 6 0)]),(.fn 103 [] [(.ptr 2 0),(.ptr 1 0)]),(.fn 106 [] [(.ptr 2 0)]),(.fn 104 [] [(.ptr 6 0)])]),some (.mp (aK T1) T1.length),some (.box 183 [(.mp 3)]),some (.box 115 [(.fn 98 [(.rp (aF dl sk dc) 0)] [])]),some (.box 185 [(.fn 99 [] [(.ptr 0 0),(.ptr 2 0)])])]:=have k1:=fk 9 (dU x1) rfl;have k2:=mq bz 9 h2;FMM.fi 7 gE func164 ([k1.o]++rT 9++[k2.o,bT]++rF 6) (Lg h3 (gc (eJ h1) (gc k2 (Ba (eJ h1) (Dp h0 (gc k1 gn))))))
end
theorem bRl(h0:(decide (x1≤4))=true)(h1:x3≠bib):FMM Tp 164 [(.agg [(.fn 100 [] [(.ptr 4 0),(.ptr 5 0),(.ptr 0 0),(.ptr 2 0)]),(.fn 102 [] [(.ptr 6 0)]),(.fn 103 [] [(.ptr 2 0),(.ptr 1 0)]),(.fn 106 [] [(.ptr 2 0)]),(.fn 104 [] [(.ptr 6 0)])]),(.p (dcE x0 x1 x2 x3 x4 x5)),(pI bib)] [some (.box 106 [(.rp (aF dl sk dc) 0)]),some (.box 31 [(.p ov)]),some (.box 119 [(.fn 100 [] [(.ptr 4 0),(.ptr 5 0),(.ptr 0 0),(.ptr 2 0)]),(.fn 102 [] [(.ptr 6 0)]),(.fn 103 [] [(.ptr 2 0),(.ptr 1 0)]),(.fn 106 [] [(.ptr 2 0)]),(.fn 104 [] [(.ptr 6 0)])]),some (.mp (aK T) T.length),some (.box 183 [(.mp 3)]),some (.box 115 [(.fn 98 [(.rp (aF dl sk dc) 0)] [])]),some (.box 185 [(.fn 99 [] [(.ptr 0 0),(.ptr 2 0)])])] (pB false) [some (.box 106 [(.rp (aF dl sk dc) 0)]),some (.box 31 [(.p ov)]),some (.box 119 [(.fn 100 [] [(.ptr 4 0),(.ptr 5 0),(.ptr 0 0),(.ptr 2 0)]),(.fn 102 [] [(.ptr 6 0)]),(.fn 103 [] [(.ptr 2 0),(.ptr 1 0)]),(.fn 106 [] [(.ptr 2 0)]),(.fn 104 [] [(.ptr 6 0)])]),some (.mp (aK T) T.length),some (.box 183 [(.mp 3)]),some (.box 115 [(.fn 98 [(.rp (aF dl sk dc) 0)] [])]),some (.box 185 [(.fn 99 [] [(.ptr 0 0),(.ptr 2 0)])])]:=have k1:=fk 9 (dU x1) rfl;FMM.fi 7 gE func164 ([k1.o]++rT 5++rF 5) (Dp (bI h1) (Dp h0 (gc k1 gn)))
theorem bRm(h0:(decide (x1≤4))=false):FMM Tp 164 [(.agg [(.fn 100 [] [(.ptr 4 0),(.ptr 5 0),(.ptr 0 0),(.ptr 2 0)]),(.fn 102 [] [(.ptr 6 0)]),(.fn 103 [] [(.ptr 2 0),(.ptr 1 0)]),(.fn 106 [] [(.ptr 2 0)]),(.fn 104 [] [(.ptr 6 0)])]),(.p (dcE x0 x1 x2 x3 x4 x5)),(pI bib)] [some (.box 106 [(.rp (aF dl sk dc) 0)]),some (.box 31 [(.p ov)]),some (.box 119 [(.fn 100 [] [(.ptr 4 0),(.ptr 5 0),(.ptr 0 0),(.ptr 2 0)]),(.fn 102 [] [(.ptr 6 0)]),(.fn 103 [] [(.ptr 2 0),(.ptr 1 0)]),(.fn 106 [] [(.ptr 2 0)]),(.fn 104 [] [(.ptr 6 0)])]),some (.mp (aK T) T.length),some (.box 183 [(.mp 3)]),some (.box 115 [(.fn 98 [(.rp (aF dl sk dc) 0)] [])]),some (.box 185 [(.fn 99 [] [(.ptr 0 0),(.ptr 2 0)])])] (pB false) [some (.box 106 [(.rp (aF dl sk dc) 0)]),some (.box 31 [(.p ov)]),some (.box 119 [(.fn 100 [] [(.ptr 4 0),(.ptr 5 0),(.ptr 0 0),(.ptr 2 0)]),(.fn 102 [] [(.ptr 6 0)]),(.fn 103 [] [(.ptr 2 0),(.ptr 1 0)]),(.fn 106 [] [(.ptr 2 0)]),(.fn 104 [] [(.ptr 6 0)])]),some (.mp (aK T) T.length),some (.box 183 [(.mp 3)]),some (.box 115 [(.fn 98 [(.rp (aF dl sk dc) 0)] [])]),some (.box 185 [(.fn 99 [] [(.ptr 0 0),(.ptr 2 0)])])]:=have k1:=fk 9 (dU x1) rfl;FMM.fi 7 gE func164 ([k1.o]++rF 5) (Dp h0 (gc k1 gn))
theorem bRn(h0:inR (a+b))(An:r0=(a+b)):FV Tp 210 [(pI a),(pI b)] base (pI r0) []:=by
 subst An;exact FV.fi func210 [] (gc h0 gn)
theorem bRo(h0:inR (a-b))(An:r0=(a-b)):FV Tp 211 [(pI a),(pI b)] base (pI r0) []:=by
 subst An;exact FV.fi func211 [] (gc h0 gn)
theorem bRp(h0:inR ((1200:Int)*b))(h1:inR (a+((1200:Int)*b)))(An:r0=(a+((1200:Int)*b))):FV Tp 212 [(pI a),(pI b)] base (pI r0) []:=by
 subst An;exact FV.fi func212 [] (gc h1 (gc h0 gn))
theorem bRq:FV Tp 213 [(pI a),(pI b)] base (pI a) []:=FV.fi func213 [] gn
theorem aHj(a b:Int)(h:inR (a+b)){base:Nat}:FV Tp 210 [.p (aA a),.p (aA b)] base (pI (a+b)) []:=bRn h rfl
theorem bEy(a b:Int)(h:inR (a-b)){base:Nat}:FV Tp 211 [.p (aA a),.p (aA b)] base (pI (a-b)) []:=bRo h rfl
theorem bEz(a b:Int)(h:inR (1200*b)∧inR (a+1200*b)){base:Nat}:FV Tp 212 [.p (aA a),.p (aA b)] base (pI (a+1200*b)) []:=bRp h.1 h.2 rfl
theorem bFa(a b:Int){base:Nat}:FV Tp 213 [.p (aA a),.p (aA b)] base (pI a) []:=bRq
theorem mW:FV Tp 165 [] base (.agg [(.fn 210 [] []),(.fn 211 [] []),(.fn 212 [] []),(.fn 213 [] []),(.fn 210 [] [])]) []:=FV.fi func165 [] gn
def qW(l:List Int)(m:Int)(i:Nat):St:=⟨fr 18 [(0,(pI m)),(4,(pI 0)),(7,(.p (aH l))),(8,(pI (l.length:Int))),(9,(pI (i:Int)))],[]⟩
theorem bRr{Q7:Int}(hl0:aG Tp 0 (sub (cd Tryz.f159) cf) (qW l a 0) (.exit 0) (qW l Q7 Ei)):FV Tp 159 [(pI a),(.p (aH l))] base (pI Q7) []:=FV.fi func159 [hl0.k 6 (gZ [1,3,5,2,10,7])] (gc hl0.code gn)
theorem aYe{Ag m':Int}(h0:(i:Int)<(l.length:Int))(h1:l[i]? = some Ag)(h2:co i)(Tc:m'=(if Ag > m then Ag else m))(Ak:i'=(i+1)):aC Tp 0 (sub (cd Tryz.f159) cf) (qW l m i) .normal (qW l m' i'):=by
 subst Tc Ak;exact aC.fi (gZ [1,3,5,2,10,7]) [bT,.x (aA Ag)] (gc h2 (gc (atm aA h1) (gc (ixn aA h1) (g0 h0))))
theorem aYf(h0:(l.length:Int)≤(i:Int)):aC Tp 0 (sub (cd Tryz.f159) cf) (qW l m i) (.exit 0) (qW l m i):=aC.fi (gZ [1,3,5,2,10,7]) [bF] (gc (aS h0) gn)
def yP(a:Int)(l:List Int):Int:=l.foldl (fun m x=>if x > m then x else m) a
theorem aPg(a:Int)(l:List Int)(hl:l.length≤1000){base:Nat}:FV Tp 159 [.p (aA a),.p (aH l)] base (pI (yP a l)) [] :=
 bRr (aG.range (P:=Tp) (k:=0) (e := .exit 0) (fun i m=>qW l m i) (fun m=>qW l m l.length) (fun m x=>if x > m then x else m) (fun _ _=>True) (by simp) l trivial
  (fun i x acc hx _=>⟨trivial,aYe (by have:=bA hx;omega) hx (aN (by have:=bA hx;omega)) rfl rfl⟩) (fun acc _=>aYf (by omega)))
def cV(dl:Int)(sk:Lqq)(dc:Lqq)(ov:PV)(s0:Int)(s1:Int)(out:Bool)(tot:Int)(i:Nat)(te:List (Value × PV))(tk:Nat):St:=⟨fr 54 [(4,(.ptr 7 0)),(5,(.ptr 8 0)),(6,(pI 0)),(7,(.kb false)),(8,(pB out)),(9,(pI tot)),(21,(.p (fS dc))),(22,(pI (dc.length:Int))),(23,(pI (i:Int)))],[some (.box 106 [(.rp (aF dl sk dc) 0)]),some (.box 31 [(.p ov)]),some (.box 119 [(.fn 100 [] [(.ptr 4 0),(.ptr 5 0),(.ptr 0 0),(.ptr 2 0)]),(.fn 102 [] [(.ptr 6 0)]),(.fn 103 [] [(.ptr 2 0),(.ptr 1 0)]),(.fn 106 [] [(.ptr 2 0)]),(.fn 104 [] [(.ptr 6 0)])]),some (.mp te tk),some (.box 183 [(.mp 3)]),some (.box 115 [(.fn 98 [(.rp (aF dl sk dc) 0)] [])]),some (.box 185 [(.fn 99 [] [(.ptr 0 0),(.ptr 2 0)])]),some (.box 80 [(pI s0),(pI s1)]),some (.box 119 [(.fn 100 [] [(.ptr 4 0),(.ptr 5 0),(.ptr 0 0),(.ptr 2 0)]),(.fn 102 [] [(.ptr 6 0)]),(.fn 103 [] [(.ptr 2 0),(.ptr 1 0)]),(.fn 106 [] [(.ptr 2 0)]),(.fn 104 [] [(.ptr 6 0)])])]⟩
section
variable(hl0:aG Tp 7 jD (cV dl sk dc ov s0 s1 (s1 == (-1)) s1 0 (aK T) T.length) (.exit 0) (cV dl sk dc ov s0 s1 G0 Dv B0 (aK C7) C7.length))
include hl0
theorem bRs(h1:G0=true):FMM Tp 95 [(.rp (aF dl sk dc) 0),(.p (.agg [(aA s0),(aA s1)])),(.agg [(.fn 100 [] [(.ptr 4 0),(.ptr 5 0),(.ptr 0 0),(.ptr 2 0)]),(.fn 102 [] [(.ptr 6 0)]),(.fn 103 [] [(.ptr 2 0),(.ptr 1 0)]),(.fn 106 [] [(.ptr 2 0)]),(.fn 104 [] [(.ptr 6 0)])])] [some (.box 106 [(.rp (aF dl sk dc) 0)]),some (.box 31 [(.p ov)]),some (.box 119 [(.fn 100 [] [(.ptr 4 0),(.ptr 5 0),(.ptr 0 0),(.ptr 2 0)]),(.fn 102 [] [(.ptr 6 0)]),(.fn 103 [] [(.ptr 2 0),(.ptr 1 0)]),(.fn 106 [] [(.ptr 2 0)]),(.fn 104 [] [(.ptr 6 0)])]),some (.mp (aK T) T.length),some (.box 183 [(.mp 3)]),some (.box 115 [(.fn 98 [(.rp (aF dl sk dc) 0)] [])]),some (.box 185 [(.fn 99 [] [(.ptr 0 0),(.ptr 2 0)])])] (.tup [(pI 0),(pB true)]) [some (.box 106 [(.rp (aF dl sk dc) 0)]),some (.box 31 [(.p ov)]),some (.box 119 [(.fn 100 [] [(.ptr 4 0),(.ptr 5 0),(.ptr 0 0),(.ptr 2 0)]),(.fn 102 [] [(.ptr 6 0)]),(.fn 103 [] [(.ptr 2 0),(.ptr 1 0)]),(.fn 106 [] [(.ptr 2 0)]),(.fn 104 [] [(.ptr 6 0)])]),some (.mp (aK C7) C7.length),some (.box 183 [(.mp 3)]),some (.box 115 [(.fn 98 [(.rp (aF dl sk dc) 0)] [])]),some (.box 185 [(.fn 99 [] [(.ptr 0 0),(.ptr 2 0)])])]:=FMM.fi 7 gE func95 [.x (fS dc),hl0.k 1 (gI bq [7,8]),bT] (gc h1 (gc hl0.code (gr (fS dc) gn)))
theorem bRt(h1:G0=false)(h2:([Dv]:List Int).length≤1000)(An:r0=(yP 0 ([Dv]:List Int))):FMM Tp 95 [(.rp (aF dl sk dc) 0),(.p (.agg [(aA s0),(aA s1)])),(.agg [(.fn 100 [] [(.ptr 4 0),(.ptr 5 0),(.ptr 0 0),(.ptr 2 0)]),(.fn 102 [] [(.ptr 6 0)]),(.fn 103 [] [(.ptr 2 0),(.ptr 1 0)]),(.fn 106 [] [(.ptr 2 0)]),(.fn 104 [] [(.ptr 6 0)])])] [some (.box 106 [(.rp (aF dl sk dc) 0)]),some (.box 31 [(.p ov)]),some (.box 119 [(.fn 100 [] [(.ptr 4 0),(.ptr 5 0),(.ptr 0 0),(.ptr 2 0)]),(.fn 102 [] [(.ptr 6 0)]),(.fn 103 [] [(.ptr 2 0),(.ptr 1 0)]),(.fn 106 [] [(.ptr 2 0)]),(.fn 104 [] [(.ptr 6 0)])]),some (.mp (aK T) T.length),some (.box 183 [(.mp 3)]),some (.box 115 [(.fn 98 [(.rp (aF dl sk dc) 0)] [])]),some (.box 185 [(.fn 99 [] [(.ptr 0 0),(.ptr 2 0)])])] (.tup [(pI r0),(pB false)]) [some (.box 106 [(.rp (aF dl sk dc) 0)]),some (.box 31 [(.p ov)]),some (.box 119 [(.fn 100 [] [(.ptr 4 0),(.ptr 5 0),(.ptr 0 0),(.ptr 2 0)]),(.fn 102 [] [(.ptr 6 0)]),(.fn 103 [] [(.ptr 2 0),(.ptr 1 0)]),(.fn 106 [] [(.ptr 2 0)]),(.fn 104 [] [(.ptr 6 0)])]),some (.mp (aK C7) C7.length),some (.box 183 [(.mp 3)]),some (.box 115 [(.fn 98 [(.rp (aF dl sk dc) 0)] [])]),some (.box 185 [(.fn 99 [] [(.ptr 0 0),(.ptr 2 0)])])]:=by
 subst An;exact FMM.fi 7 gE func95 [.x (fS dc),hl0.k 1 (gI bq [7,8]),bF,.c (pI (yP 0 ([Dv]:List Int))) []] (gt (FC Tp 159 [(pI 0),(.own 9)] [(9,(.row 3 1 [(aA Dv)]))] 10 (pI (yP 0 ([Dv]:List Int))) []) (fv (aPg 0 ([Dv]:List Int) h2)) (gc h1 (gc hl0.code (gr (fS dc) gn))))
end
section
variable(h0:(i:Int)<(dc.length:Int))(h1:dc[i]? = some [Aa,(0:Int),Ac,Ad,Ae,Af])(h2:uni 6 dc)(h3:yO dl sk dc ov [Aa,(0:Int),Ac,Ad,Ae,Af] s0 Ay t T107)(h4:Ay=true)
include h0 h1 h2 h3 h4
theorem aYg(h5:out=true)(h6:yQ dl sk dc ov [Aa,(0:Int),Ac,Ad,Ae,Af] Au T107 T109)(h7:inR (tot+Au))(h8:co i)(Bw:Dc=(tot+Au))(Ak:i'=(i+1))(Ao:aK t'=(aK T109))(Ap:t'.length=T109.length):aC Tp 7 jD (cV dl sk dc ov s0 s1 out tot i (aK t) t.length) .normal (cV dl sk dc ov s0 s1 true Dc i' (aK t') t'.length):=by
 subst Bw Ak;have k1:=mq bz 10 h3;have k2:=fk 10 mW rfl;have k3:=mq bz 18 h6;rw [Ao,Ap];exact aC.fi (gN bq [7,8] [(8,0)]) ([bT,.x (dcE Aa 0 Ac Ad Ae Af),k1.o]++rT 5++[k2.o,k3.o,.c (pI (tot+Au)) []]) (gc h8 (gc (fk 26 (aHj tot Au h7) rfl) (gc k3 (gc bEt (gc k2 (Ba h5 (gc h4 (gc k1 (gfl h2 h1 (g0 h0))))))))))
theorem aYh(h5:out=false)(h6:yQ dl sk dc ov [Aa,(0:Int),Ac,Ad,Ae,Af] Au T107 T109)(h7:inR (tot+Au))(h8:co i)(Dm:El=((0:Int) == 3))(Bw:Dc=(tot+Au))(Ak:i'=(i+1))(Ao:aK t'=(aK T109))(Ap:t'.length=T109.length):aC Tp 7 jD (cV dl sk dc ov s0 s1 out tot i (aK t) t.length) .normal (cV dl sk dc ov s0 s1 El Dc i' (aK t') t'.length):=by
 subst Dm Bw Ak;have k1:=mq bz 10 h3;have k2:=fk 10 mW rfl;have k3:=mq bz 18 h6;rw [Ao,Ap];exact aC.fi (gI bq [7,8]) [bT,.x (dcE Aa 0 Ac Ad Ae Af),k1.o,bT,bF,bF,bF,bF,k2.o,k3.o,.c (pI (tot+Au)) []] (gc h8 (gc (fk 26 (aHj tot Au h7) rfl) (gc k3 (gc bEt (gc k2 (Ba h5 (gc h4 (gc k1 (gfl h2 h1 (g0 h0))))))))))
end
section
variable(h0:(i:Int)<(dc.length:Int))(h1:dc[i]? = some [Aa,(1:Int),Ac,Ad,Ae,Af])(h2:uni 6 dc)(h3:yO dl sk dc ov [Aa,(1:Int),Ac,Ad,Ae,Af] s0 Ay t T107)(h4:Ay=true)
include h0 h1 h2 h3 h4
theorem aYi(h5:out=true)(h6:yQ dl sk dc ov [Aa,(1:Int),Ac,Ad,Ae,Af] Au T107 T109)(h7:inR (tot-Au))(h8:co i)(Bw:Dc=(tot-Au))(Ak:i'=(i+1))(Ao:aK t'=(aK T109))(Ap:t'.length=T109.length):aC Tp 7 jD (cV dl sk dc ov s0 s1 out tot i (aK t) t.length) .normal (cV dl sk dc ov s0 s1 true Dc i' (aK t') t'.length):=by
 subst Bw Ak;have k1:=mq bz 10 h3;have k2:=fk 10 mW rfl;have k3:=mq bz 18 h6;rw [Ao,Ap];exact aC.fi (gN bq [7,8] [(8,0)]) ([bT,.x (dcE Aa 1 Ac Ad Ae Af),k1.o]++rT 5++[k2.o,k3.o,.c (pI (tot-Au)) []]) (gc h8 (gc (fk 26 (bEy tot Au h7) rfl) (gc k3 (gc bEu (gc k2 (Ba h5 (gc h4 (gc k1 (gfl h2 h1 (g0 h0))))))))))
theorem aYj(h5:out=false)(h6:yQ dl sk dc ov [Aa,(1:Int),Ac,Ad,Ae,Af] Au T107 T109)(h7:inR (tot-Au))(h8:co i)(Dm:El=((1:Int) == 3))(Bw:Dc=(tot-Au))(Ak:i'=(i+1))(Ao:aK t'=(aK T109))(Ap:t'.length=T109.length):aC Tp 7 jD (cV dl sk dc ov s0 s1 out tot i (aK t) t.length) .normal (cV dl sk dc ov s0 s1 El Dc i' (aK t') t'.length):=by
 subst Dm Bw Ak;have k1:=mq bz 10 h3;have k2:=fk 10 mW rfl;have k3:=mq bz 18 h6;rw [Ao,Ap];exact aC.fi (gI bq [7,8]) [bT,.x (dcE Aa 1 Ac Ad Ae Af),k1.o,bT,bF,bF,bF,bF,k2.o,k3.o,.c (pI (tot-Au)) []] (gc h8 (gc (fk 26 (bEy tot Au h7) rfl) (gc k3 (gc bEu (gc k2 (Ba h5 (gc h4 (gc k1 (gfl h2 h1 (g0 h0))))))))))
end
section
variable(h0:(i:Int)<(dc.length:Int))(h1:dc[i]? = some [Aa,(2:Int),Ac,Ad,Ae,Af])(h2:uni 6 dc)(h3:yO dl sk dc ov [Aa,(2:Int),Ac,Ad,Ae,Af] s0 Ay t T107)(h4:Ay=true)
include h0 h1 h2 h3 h4
theorem aYk(h5:out=true)(h6:yQ dl sk dc ov [Aa,(2:Int),Ac,Ad,Ae,Af] Au T107 T109)(h7:inR (1200*Au)∧inR (tot+1200*Au))(h8:co i)(Bw:Dc=(tot+1200*Au))(Ak:i'=(i+1))(Ao:aK t'=(aK T109))(Ap:t'.length=T109.length):aC Tp 7 jD (cV dl sk dc ov s0 s1 out tot i (aK t) t.length) .normal (cV dl sk dc ov s0 s1 true Dc i' (aK t') t'.length):=by
 subst Bw Ak;have k1:=mq bz 10 h3;have k2:=fk 10 mW rfl;have k3:=mq bz 18 h6;have k4:=fk 26 (bEz tot Au h7) rfl;rw [Ao,Ap];exact aC.fi (gN bq [7,8] [(8,0)]) ([bT,.x (dcE Aa 2 Ac Ad Ae Af),k1.o]++rT 5++[k2.o,k3.o,k4.o]) (gc h8 (gc k4 (gc k3 (gc bEv (gc k2 (Ba h5 (gc h4 (gc k1 (gfl h2 h1 (g0 h0))))))))))
theorem aYl(h5:out=false)(h6:yQ dl sk dc ov [Aa,(2:Int),Ac,Ad,Ae,Af] Au T107 T109)(h7:inR (1200*Au)∧inR (tot+1200*Au))(h8:co i)(Dm:El=((2:Int) == 3))(Bw:Dc=(tot+1200*Au))(Ak:i'=(i+1))(Ao:aK t'=(aK T109))(Ap:t'.length=T109.length):aC Tp 7 jD (cV dl sk dc ov s0 s1 out tot i (aK t) t.length) .normal (cV dl sk dc ov s0 s1 El Dc i' (aK t') t'.length):=by
 subst Dm Bw Ak;have k1:=mq bz 10 h3;have k2:=fk 10 mW rfl;have k3:=mq bz 18 h6;have k4:=fk 26 (bEz tot Au h7) rfl;rw [Ao,Ap];exact aC.fi (gI bq [7,8]) [bT,.x (dcE Aa 2 Ac Ad Ae Af),k1.o,bT,bF,bF,bF,bF,k2.o,k3.o,k4.o] (gc h8 (gc k4 (gc k3 (gc bEv (gc k2 (Ba h5 (gc h4 (gc k1 (gfl h2 h1 (g0 h0))))))))))
end
section
variable(h0:(i:Int)<(dc.length:Int))(h1:dc[i]? = some [Aa,(3:Int),Ac,Ad,Ae,Af])(h2:uni 6 dc)(h3:yO dl sk dc ov [Aa,(3:Int),Ac,Ad,Ae,Af] s0 Ay t T107)(h4:Ay=true)
include h0 h1 h2 h3 h4
theorem aYm(h5:out=true)(h6:yQ dl sk dc ov [Aa,(3:Int),Ac,Ad,Ae,Af] Au T107 T109)(h7:co i)(Ak:i'=(i+1))(Ao:aK t'=(aK T109))(Ap:t'.length=T109.length):aC Tp 7 jD (cV dl sk dc ov s0 s1 out tot i (aK t) t.length) .normal (cV dl sk dc ov s0 s1 true tot i' (aK t') t'.length):=by
 subst Ak;have k1:=mq bz 10 h3;have k2:=fk 10 mW rfl;have k3:=mq bz 18 h6;rw [Ao,Ap];exact aC.fi (gN bq [7,8] [(8,0)]) ([bT,.x (dcE Aa 3 Ac Ad Ae Af),k1.o]++rT 5++[k2.o,k3.o,.c (pI tot) []]) (gc h7 (gc (fk 26 (bFa tot Au) rfl) (gc k3 (gc bEw (gc k2 (Ba h5 (gc h4 (gc k1 (gfl h2 h1 (g0 h0))))))))))
theorem aYn(h5:out=false)(h6:yQ dl sk dc ov [Aa,(3:Int),Ac,Ad,Ae,Af] Au T107 T109)(h7:co i)(Dm:El=((3:Int) == 3))(Ak:i'=(i+1))(Ao:aK t'=(aK T109))(Ap:t'.length=T109.length):aC Tp 7 jD (cV dl sk dc ov s0 s1 out tot i (aK t) t.length) .normal (cV dl sk dc ov s0 s1 El tot i' (aK t') t'.length):=by
 subst Dm Ak;have k1:=mq bz 10 h3;have k2:=fk 10 mW rfl;have k3:=mq bz 18 h6;rw [Ao,Ap];exact aC.fi (gI bq [7,8]) [bT,.x (dcE Aa 3 Ac Ad Ae Af),k1.o,bT,bF,bF,bF,bF,k2.o,k3.o,.c (pI tot) []] (gc h7 (gc (fk 26 (bFa tot Au) rfl) (gc k3 (gc bEw (gc k2 (Ba h5 (gc h4 (gc k1 (gfl h2 h1 (g0 h0))))))))))
end
section
variable(h0:(i:Int)<(dc.length:Int))(h1:dc[i]? = some [Aa,(4:Int),Ac,Ad,Ae,Af])(h2:uni 6 dc)(h3:yO dl sk dc ov [Aa,(4:Int),Ac,Ad,Ae,Af] s0 Ay t T107)(h4:Ay=true)
include h0 h1 h2 h3 h4
theorem aYo(h5:out=true)(h6:yQ dl sk dc ov [Aa,(4:Int),Ac,Ad,Ae,Af] Au T107 T109)(h7:inR (tot+Au))(h8:co i)(Bw:Dc=(tot+Au))(Ak:i'=(i+1))(Ao:aK t'=(aK T109))(Ap:t'.length=T109.length):aC Tp 7 jD (cV dl sk dc ov s0 s1 out tot i (aK t) t.length) .normal (cV dl sk dc ov s0 s1 true Dc i' (aK t') t'.length):=by
 subst Bw Ak;have k1:=mq bz 10 h3;have k2:=fk 10 mW rfl;have k3:=mq bz 18 h6;rw [Ao,Ap];exact aC.fi (gN bq [7,8] [(8,0)]) ([bT,.x (dcE Aa 4 Ac Ad Ae Af),k1.o]++rT 5++[k2.o,k3.o,.c (pI (tot+Au)) []]) (gc h8 (gc (fk 26 (aHj tot Au h7) rfl) (gc k3 (gc bEx (gc k2 (Ba h5 (gc h4 (gc k1 (gfl h2 h1 (g0 h0))))))))))
theorem aYp(h5:out=false)(h6:yQ dl sk dc ov [Aa,(4:Int),Ac,Ad,Ae,Af] Au T107 T109)(h7:inR (tot+Au))(h8:co i)(Dm:El=((4:Int) == 3))(Bw:Dc=(tot+Au))(Ak:i'=(i+1))(Ao:aK t'=(aK T109))(Ap:t'.length=T109.length):aC Tp 7 jD (cV dl sk dc ov s0 s1 out tot i (aK t) t.length) .normal (cV dl sk dc ov s0 s1 El Dc i' (aK t') t'.length):=by
 subst Dm Bw Ak;have k1:=mq bz 10 h3;have k2:=fk 10 mW rfl;have k3:=mq bz 18 h6;rw [Ao,Ap];exact aC.fi (gI bq [7,8]) [bT,.x (dcE Aa 4 Ac Ad Ae Af),k1.o,bT,bF,bF,bF,bF,k2.o,k3.o,.c (pI (tot+Au)) []] (gc h8 (gc (fk 26 (aHj tot Au h7) rfl) (gc k3 (gc bEx (gc k2 (Ba h5 (gc h4 (gc k1 (gfl h2 h1 (g0 h0))))))))))
end
theorem aPh(h0:(i:Int)<(dc.length:Int))(h1:dc[i]? = some [Aa,Ab,Ac,Ad,Ae,Af])(h2:uni 6 dc)(h3:yO dl sk dc ov [Aa,Ab,Ac,Ad,Ae,Af] s0 Ay t T107)(h4:Ay=false)(h5:co i)(Ak:i'=(i+1))(Ao:aK t'=(aK T107))(Ap:t'.length=T107.length):aC Tp 7 jD (cV dl sk dc ov s0 s1 out tot i (aK t) t.length) .normal (cV dl sk dc ov s0 s1 out tot i' (aK t') t'.length):=by
 subst Ak;have k1:=mq bz 10 h3;rw [Ao,Ap];exact aC.fi (gI bq [7,8]) [bT,.x (dcE Aa Ab Ac Ad Ae Af),k1.o,bF] (gc h5 (gc h4 (gc k1 (gfl h2 h1 (g0 h0)))))
theorem aPi(h0:(dc.length:Int)≤(i:Int)):aC Tp 7 jD (cV dl sk dc ov s0 s1 out tot i (aK t) t.length) (.exit 0) (cV dl sk dc ov s0 s1 out tot i (aK t) t.length):=aC.fi (gI bq [7,8]) [bF] (gc (aS h0) gn)
def jE(dl:Int)(sk:Lqq)(dc:Lqq)(on:Nat)(oc:List PV)(i:Nat)(te:List (Value × PV))(tk:Nat):St:=⟨fr 48 [(2,(.p dZ)),(3,(.ptr 7 0)),(4,(.own 8)),(15,(.p (fS dc))),(16,(pI (dc.length:Int))),(17,(pI (i:Int)))],[some (.box 106 [(.rp (aF dl sk dc) 0)]),some (.box 31 [(.p dZ)]),some (.box 119 [(.fn 100 [] [(.ptr 4 0),(.ptr 5 0),(.ptr 0 0),(.ptr 2 0)]),(.fn 102 [] [(.ptr 6 0)]),(.fn 103 [] [(.ptr 2 0),(.ptr 1 0)]),(.fn 106 [] [(.ptr 2 0)]),(.fn 104 [] [(.ptr 6 0)])]),some (.mp te tk),some (.box 183 [(.mp 3)]),some (.box 115 [(.fn 98 [(.rp (aF dl sk dc) 0)] [])]),some (.box 185 [(.fn 99 [] [(.ptr 0 0),(.ptr 2 0)])]),some (.box 119 [(.fn 100 [] [(.ptr 4 0),(.ptr 5 0),(.ptr 0 0),(.ptr 2 0)]),(.fn 102 [] [(.ptr 6 0)]),(.fn 103 [] [(.ptr 2 0),(.ptr 1 0)]),(.fn 106 [] [(.ptr 2 0)]),(.fn 104 [] [(.ptr 6 0)])]),some (.row 3 on oc)]⟩
theorem bRu{Js:List Int}{Q8:Lqb}(hl0:aG Tp 0 wV (jE dl sk dc 0 [] 0 (aK ([]:Lqb)) 0) (.exit 0) (jE dl sk dc Js.length (Js.map aA) Ei (aK Q8) Q8.length)):FV Tp 46 [(.rp (aF dl sk dc) 0)] base (.own base) [(base,(.row 3 Js.length (Js.map aA)))]:=have k1:=mN [] 0 (aHq (dl:=dl) (sk:=sk) (dc:=dc));FV.fi func46 [k1.o,.x (fS dc),hl0.k 1 (gN bu bm [(4,3)])] (gc hl0.code (gr (fS dc) (gc k1 gn)))
section
variable(h0:(i:Int)<(dc.length:Int))(h1:dc[i]? = some [Aa,Ab,Ac,Ad,Ae,Af])(h2:uni 6 dc)(h3:aLd dl sk dc dZ [Aa,Ab,Ac,Ad,Ae,Af] [I7,I8,I9,Ja,Jb,Jc] G7 t T113)
include h0 h1 h2 h3
theorem aYq{o':List Int}(h4:(iP Ab)=true)(h5:qZ dl sk dc dZ [Aa,Ab,Ac,Ad,Ae,Af] G8 T113 T115)(h6:G8=true)(h7:G7=false)(h8:[(aA Aa)].length=1*1∧o.length+1≤1000000)(h9:co i)(Cw:o'.length=(o.length+1))(Cy:o'.map aA=((o.map aA)++[(aA Aa)]))(Ak:i'=(i+1))(Ao:aK t'=(aK T115))(Ap:t'.length=T115.length):aC Tp 0 wV (jE dl sk dc o.length (o.map aA) i (aK t) t.length) .normal (jE dl sk dc o'.length (o'.map aA) i' (aK t') t'.length):=by
 subst Ak;have k1:=mq bz 10 h3;have k2:=fk 11 (wX Ab) rfl;have k3:=mq bz 11 h5;rw [Cw,Cy,Ao,Ap];exact aC.fi (gI bu [0,1,2,3,4,5,6,7,12]) ([bT,.x (dcE Aa Ab Ac Ad Ae Af),k1.o,k2.o,bT,bT,bT,bT,k3.o]++rT 5) (gc h9 (gc h8 (gc (cE h7) (Aw h6 (gc h4 (gc k3 (Ba h4 (gc k2 (gc k1 (gfl h2 h1 (g0 h0)))))))))))
theorem aYr(h4:(iP Ab)=true)(h5:qZ dl sk dc dZ [Aa,Ab,Ac,Ad,Ae,Af] G8 T113 T115)(h6:G8=true)(h7:G7=true)(h8:co i)(Ak:i'=(i+1))(Ao:aK t'=(aK T115))(Ap:t'.length=T115.length):aC Tp 0 wV (jE dl sk dc o.length (o.map aA) i (aK t) t.length) .normal (jE dl sk dc o.length (o.map aA) i' (aK t') t'.length):=by
 subst Ak;have k1:=mq bz 10 h3;have k2:=fk 11 (wX Ab) rfl;have k3:=mq bz 11 h5;rw [Ao,Ap];exact aC.fi (gI bu bm) [bT,.x (dcE Aa Ab Ac Ad Ae Af),k1.o,k2.o,bT,bT,bT,bT,k3.o,bT,bT,bT,bT,bF] (gc h8 (gc (aW h7) (Aw h6 (gc h4 (gc k3 (Ba h4 (gc k2 (gc k1 (gfl h2 h1 (g0 h0))))))))))
theorem aYs(h4:(iP Ab)=true)(h5:qZ dl sk dc dZ [Aa,Ab,Ac,Ad,Ae,Af] G8 T113 T115)(h6:G8=false)(h7:co i)(Ak:i'=(i+1))(Ao:aK t'=(aK T115))(Ap:t'.length=T115.length):aC Tp 0 wV (jE dl sk dc o.length (o.map aA) i (aK t) t.length) .normal (jE dl sk dc o.length (o.map aA) i' (aK t') t'.length):=by
 subst Ak;have k1:=mq bz 10 h3;have k2:=fk 11 (wX Ab) rfl;have k3:=mq bz 11 h5;rw [Ao,Ap];exact aC.fi (gI bu bm) [bT,.x (dcE Aa Ab Ac Ad Ae Af),k1.o,k2.o,bT,bT,bT,bT,k3.o,bT,bF,bF,bF] (gc h7 (Aw h6 (gc h4 (gc k3 (Ba h4 (gc k2 (gc k1 (gfl h2 h1 (g0 h0)))))))))
theorem aYt(h4:(iP Ab)=false)(h5:co i)(Ak:i'=(i+1))(Ao:aK t'=(aK T113))(Ap:t'.length=T113.length):aC Tp 0 wV (jE dl sk dc o.length (o.map aA) i (aK t) t.length) .normal (jE dl sk dc o.length (o.map aA) i' (aK t') t'.length):=by
 subst Ak;have k1:=mq bz 10 h3;have k2:=fk 11 (wX Ab) rfl;rw [Ao,Ap];exact aC.fi (gI bu bm) ([bT,.x (dcE Aa Ab Ac Ad Ae Af),k1.o,k2.o]++rF 5) (gc h5 (Dp h4 (gc k2 (gc k1 (gfl h2 h1 (g0 h0))))))
end
theorem aYu(h0:(dc.length:Int)≤(i:Int)):aC Tp 0 wV (jE dl sk dc o.length (o.map aA) i (aK t) t.length) (.exit 0) (jE dl sk dc o.length (o.map aA) i (aK t) t.length):=aC.fi (gI bu bm) [bF] (gc (aS h0) gn)
end
section
def aYc(dl:Int)(oc:List Int)(dc:Lqq)(bib:Int)(x:List Int):Bool:=decide (dK x≤4) && (dB x == bib && (dI dl oc dc x && (!(dK x == 4) || aGy dl oc dc x)))
def byI(k t m:Int):Int:=if k=1 then t-m else if k=2 then t+1200*m else if k=3 then t else t+m
def aHi(dl:Int)(oc:List Int)(dc:Lqq)(bib:Int)(acc:Bool × Int)(x:List Int):Bool × Int:=if aYc dl oc dc bib x then (acc.1 || dK x == 3,byI (dK x) acc.2 (pF dl oc dc x)) else acc
def aYd(dl:Int)(oc:List Int)(dc:Lqq)(bib time:Int):Bool × Int:=dc.foldl (aHi dl oc dc bib) (time == -1,time)
def fF(dl:Int)(oc:List Int)(dc:Lqq)(bib time:Int):Int × Bool:=if (aYd dl oc dc bib time).1 then (0,true) else (max 0 (aYd dl oc dc bib time).2,false)
def pJ(dl:Int)(dc:Lqq)(x:List Int):Bool:=iP (dK x) && (dI dl [] dc x && (tU dl [] dc x).isNone)
def aV(dl:Int)(dc:Lqq):List Int:=(dc.filter (pJ dl dc)).map dN
section
variable {dl:Int} {sk dc:Lqq} {oc:List Int} {ov:PV}
theorem bKk(hd:bV dc)(hov:∀ n,sF ov n (oc.contains n)){x:List Int}(hx:x∈dc){T:Lqb}(hT:cA dl oc dc T):∃ T' z0 z1 z2 z3 z4 z5,cA dl oc dc T'∧(tU dl oc dc x).getD Gz=[z0,z1,z2,z3,z4,z5]∧aLd dl sk dc ov x [z0,z1,z2,z3,z4,z5] (tU dl oc dc x).isSome T T':=by
 obtain ⟨T',h1,h2⟩:=bWa (sk:=sk) hd hov hx T hT;cases hr:tU dl oc dc x with
 | none =>
  rw [hr] at h2
  exact ⟨T',0,0,0,0,0,0,h1,rfl,h2⟩
 | some z =>
  have hz:z.length=6:=by
   rw [aBo hd hx] at hr
   exact gB hd _ z (wG hr)
  obtain ⟨a,b,c,d,e,f,rfl⟩:=A8 hz;rw [hr] at h2
  exact ⟨T',a,b,c,d,e,f,h1,rfl,h2⟩
theorem aLc(hd:bV dc):∀ (n:Nat) (x:List Int),x∈dc→10000-dN x≤(n:Int)→0≤pF dl oc dc x∧pF dl oc dc x≤36000
 | 0,x,hx,h=>by have:=eV hd hx;omega
 | n+1,x,hx,h=>by
  rw [aSe hd hx];cases hr:aGz dl oc dc x with
  | none =>
   have h4:=(jB.1 (hd.rng x hx)).2.2.2;have:lP (x.getD 1 0)≤36000:=by unfold lP;split <;> omega
   show 0≤x.getD 4 0∧x.getD 4 0≤36000;omega
  | some z =>
   have hz:z∈bK dc (dN x):=by
    rw [aBp hd hx] at hr
    exact wG hr
   obtain ⟨a1,a2⟩:=qX hd hx hz;exact aLc hd n z a1 (by omega)
theorem aSp(hd:bV dc){x:List Int}(hx:x∈dc):0≤pF dl oc dc x∧pF dl oc dc x≤36000:=aLc hd 10000 x hx (by have:=eV hd hx;omega)
theorem bVz(hd:bV dc)(hov:∀ n,sF ov n (oc.contains n))(bib:Int){x:List Int}(hx:x∈dc){T:Lqb}(hT:cA dl oc dc T):∃ T',cA dl oc dc T'∧yO dl sk dc ov x bib (aYc dl oc dc bib x) T T':=by
 obtain ⟨T1,h1,c1⟩:=bFe (sk:=sk) hd hov hx T hT;obtain ⟨T2,h2,c2⟩:=bWc (sk:=sk) hd hov hx T1 h1;obtain ⟨a,k,c,d,e,f,rfl⟩:=A8 (hd.ud x hx);unfold aYc
 by_cases hk:k≤4
 ·have Gb:decide (k≤4)=true:=decide_eq_true hk
  rw [show decide (dK [a,k,c,d,e,f]≤4)=true from Gb,hZ]
  by_cases hb:d=bib
  ·rw [show (dB [a,k,c,d,e,f] == bib)=true by simpa using hb,hZ]
   cases hc:dI dl oc dc [a,k,c,d,e,f] with
   | false =>
    rw [hc] at c1
    exact ⟨T1,h1,bRk Gb hb c1 rfl⟩
   | true =>
    rw [hc] at c1
    rw [hZ]
    by_cases h4:k=4
    ·rw [show (dK [a,k,c,d,e,f] == 4)=true by simpa using h4,Bool.not_true,Bool.false_or]
     exact ⟨T2,h2,bRj Gb hb c1 rfl h4 c2⟩
    ·rw [show (dK [a,k,c,d,e,f] == 4)=false by simpa using h4,Bool.not_false,Bool.true_or]
     exact ⟨T1,h1,bRi Gb hb c1 rfl h4⟩
  ·rw [show (dB [a,k,c,d,e,f] == bib)=false by simpa using hb,Bool.false_and]
   exact ⟨T,hT,bRl Gb hb⟩
 ·have Gb:decide (k≤4)=false:=decide_eq_false hk
  rw [show decide (dK [a,k,c,d,e,f]≤4)=false from Gb,Bool.false_and]
  exact ⟨T,hT,bRm Gb⟩
theorem bEs(hd:bV dc)(hov:∀ n,sF ov n (oc.contains n))(s0 s1:Int)(hs : -1≤s1∧s1≤360000){T:Lqb}(hT:cA dl oc dc T):∃ T',cA dl oc dc T'∧aDg dl sk dc ov [s0,s1] (fF dl oc dc s0 s1).1 (fF dl oc dc s0 s1).2 T T':=by
 have hlen:=hd.len;obtain ⟨acc,⟨h1,h2,_⟩,h3⟩:=aG.ex (P:=Tp) (k:=7) (b:=sub (cd Tryz.f95) ca) (e := .exit 0) (fun i (a:(Bool × Int) × Lqb)=>cV dl sk dc ov s0 s1 a.1.1 a.1.2 i (aK a.2) a.2.length)
  (fun a=>cV dl sk dc ov s0 s1 a.1.1 a.1.2 dc.length (aK a.2) a.2.length)
  (fun i a=>cA dl oc dc a.2∧a.1=(dc.take i).foldl (aHi dl oc dc s0) (s1 == -1,s1) ∧ -1-36000*(i:Int)≤a.1.2∧a.1.2≤360000+43200000*(i:Int)) (by simp) dc.length
  (fun i acc hi hI=>by
   obtain ⟨⟨out,tot⟩,T1⟩:=acc;obtain ⟨h1,h2,h3,h4⟩:=hI;dsimp only at h1 h2 h3 h4
   have hm:=gJ hi;obtain ⟨a,k,c,d,e,f,hy⟩:=A8 (hd.ud _ hm);have hx:dc[i]? = some [a,k,c,d,e,f]:=by rw [Aq hi,hy]
   rw [hy] at hm
   have et:(dc.take (i+1)).foldl (aHi dl oc dc s0) (s1 == -1,s1)=aHi dl oc dc s0 (out,tot) [a,k,c,d,e,f]:=by
    rw [List.take_add_one,hx,aBa,← h2];rfl
   obtain ⟨T2,q1,q2⟩:=bVz (sk:=sk) hd hov s0 hm h1;rw [et];unfold aHi;cases hh:aYc dl oc dc s0 [a,k,c,d,e,f] with
   | false =>
    rw [hh] at q2
    exact ⟨((out,tot),T2),⟨q1,by simp,by dsimp only;omega,by dsimp only;omega⟩,aPh (by omega) hx hd.ud q2 rfl (aN (by omega)) rfl rfl rfl⟩
   | true =>
    rw [hh] at q2
    rw [if_pos rfl];obtain ⟨T3,q3,q4⟩:=bWd (sk:=sk) hd hov hm T2 q1;have hb:=aSp (dl:=dl) (oc:=oc) hd hm;revert q4 hb;generalize pF dl oc dc [a,k,c,d,e,f]=m;intro q4 hb;have hk:0≤k∧k≤4:=by
     have h5:=(jB.1 (hd.rng _ hm)).2.1;unfold aYc at hh
     rw [Bl] at hh
     exact ⟨h5.1,of_decide_eq_true hh.1⟩
    have Tb:k=0∨k=1∨k=2∨k=3∨k=4:=by omega
    clear hh
    rcases Tb with rfl | rfl | rfl | rfl | rfl
    ·have hI:∀ q:Bool,-1-36000*((i+1:Nat):Int)≤tot+m∧tot+m≤360000+43200000*((i+1:Nat):Int):=fun _=>by omega
     cases out with
     | true=>exact ⟨((true,tot+m),T3),⟨q3,rfl,(hI true).1,(hI true).2⟩,aYg (by omega) hx hd.ud q2 rfl rfl q4 (by show inR (tot+m);unfold inR;omega) (aN (by omega)) rfl rfl rfl rfl⟩
     | false=>exact ⟨((false,tot+m),T3),⟨q3,rfl,(hI true).1,(hI true).2⟩,aYh (by omega) hx hd.ud q2 rfl rfl q4 (by show inR (tot+m);unfold inR;omega) (aN (by omega)) rfl rfl rfl rfl rfl⟩
    ·have hI:∀ q:Bool,-1-36000*((i+1:Nat):Int)≤tot-m∧tot-m≤360000+43200000*((i+1:Nat):Int):=fun _=>by omega
     cases out with
     | true=>exact ⟨((true,tot-m),T3),⟨q3,rfl,(hI true).1,(hI true).2⟩,aYi (by omega) hx hd.ud q2 rfl rfl q4 (by show inR (tot-m);unfold inR;omega) (aN (by omega)) rfl rfl rfl rfl⟩
     | false=>exact ⟨((false,tot-m),T3),⟨q3,rfl,(hI true).1,(hI true).2⟩,aYj (by omega) hx hd.ud q2 rfl rfl q4 (by show inR (tot-m);unfold inR;omega) (aN (by omega)) rfl rfl rfl rfl rfl⟩
    ·have hI:∀ q:Bool,-1-36000*((i+1:Nat):Int)≤tot+1200*m∧tot+1200*m≤360000+43200000*((i+1:Nat):Int):=fun _=>by omega
     cases out with
     | true=>exact ⟨((true,tot+1200*m),T3),⟨q3,rfl,(hI true).1,(hI true).2⟩,aYk (by omega) hx hd.ud q2 rfl rfl q4 ⟨by show inR (1200*m);unfold inR;omega,by show inR (tot+1200*m);unfold inR;omega⟩ (aN (by omega)) rfl rfl rfl rfl⟩
     | false=>exact ⟨((false,tot+1200*m),T3),⟨q3,rfl,(hI true).1,(hI true).2⟩,aYl (by omega) hx hd.ud q2 rfl rfl q4 ⟨by show inR (1200*m);unfold inR;omega,by show inR (tot+1200*m);unfold inR;omega⟩ (aN (by omega)) rfl rfl rfl rfl rfl⟩
    ·have hI:∀ q:Bool,-1-36000*((i+1:Nat):Int)≤tot∧tot≤360000+43200000*((i+1:Nat):Int):=fun _=>by omega
     cases out with
     | true=>exact ⟨((true,tot),T3),⟨q3,rfl,(hI true).1,(hI true).2⟩,aYm (by omega) hx hd.ud q2 rfl rfl q4 (aN (by omega)) rfl rfl rfl⟩
     | false=>exact ⟨((true,tot),T3),⟨q3,rfl,(hI true).1,(hI true).2⟩,aYn (by omega) hx hd.ud q2 rfl rfl q4 (aN (by omega)) rfl rfl rfl rfl⟩
    ·have hI:∀ q:Bool,-1-36000*((i+1:Nat):Int)≤tot+m∧tot+m≤360000+43200000*((i+1:Nat):Int):=fun _=>by omega
     cases out with
     | true=>exact ⟨((true,tot+m),T3),⟨q3,rfl,(hI true).1,(hI true).2⟩,aYo (by omega) hx hd.ud q2 rfl rfl q4 (by show inR (tot+m);unfold inR;omega) (aN (by omega)) rfl rfl rfl rfl⟩
     | false=>exact ⟨((false,tot+m),T3),⟨q3,rfl,(hI true).1,(hI true).2⟩,aYp (by omega) hx hd.ud q2 rfl rfl q4 (by show inR (tot+m);unfold inR;omega) (aN (by omega)) rfl rfl rfl rfl rfl⟩)
  (fun acc hI=>aPi (by omega)) (acc:=((s1 == -1,s1),T)) ⟨hT,by simp,by dsimp only;omega,by dsimp only;omega⟩
 obtain ⟨⟨out,tot⟩,T1⟩:=acc;dsimp only at h1 h2 h3
 rw [List.take_length] at h2
 have e:aYd dl oc dc s0 s1=(out,tot):=h2.symm;unfold fF;rw [e];cases out with
 | true=>exact ⟨T1,h1,bRs h3 rfl⟩
 | false=>exact ⟨T1,h1,bRt h3 rfl (by simp) (by simp [yP];omega)⟩
theorem qV(hd:bV dc){base:Nat}:FV Tp 46 [qY dl sk dc] base (.own base) [(base,.row 3 (aV dl dc).length ((aV dl dc).map aA))]:=by
 have hlen:=hd.len;have hov:=aHn;obtain ⟨acc,⟨h1,h2⟩,h3⟩:=aG.ex (P:=Tp) (k:=0) (b:=sub (cd Tryz.f46) bw) (e := .exit 0) (fun i (a:List Int × Lqb)=>jE dl sk dc a.1.length (a.1.map aA) i (aK a.2) a.2.length)
  (fun a=>jE dl sk dc a.1.length (a.1.map aA) dc.length (aK a.2) a.2.length)
  (fun i a=>cA dl [] dc a.2∧a.1=((dc.take i).filter (pJ dl dc)).map dN) (by simp) dc.length
  (fun i acc hi hI=>by
   obtain ⟨o,T1⟩:=acc;obtain ⟨h1,h2⟩:=hI;dsimp only at h1 h2
   have hm:=gJ hi;obtain ⟨a,k,c,d,e,f,hy⟩:=A8 (hd.ud _ hm);have hx:dc[i]? = some [a,k,c,d,e,f]:=by rw [Aq hi,hy]
   rw [hy] at hm
   have ho:o.length≤1000:=by
    rw [h2,eI];have:=yK (pJ dl dc) (dc.take i);rw [mP] at this;omega
   have et:((dc.take (i+1)).filter (pJ dl dc)).map dN=o++if pJ dl dc [a,k,c,d,e,f] then [a] else []:=by
    rw [List.take_add_one,hx,sC,fL,← h2]
    congr 1
    show (List.filter (pJ dl dc) [[a,k,c,d,e,f]]).map dN=_;cases hq:pJ dl dc [a,k,c,d,e,f] <;> simp [hq]
   rw [et];obtain ⟨T2,z0,z1,z2,z3,z4,z5,q1,_,q2⟩:=bKk (sk:=sk) hd hov hm h1;obtain ⟨T3,q3,q4⟩:=bFe (sk:=sk) hd hov hm T2 q1;cases ha:iP k with
   | false =>
    have hb:pJ dl dc [a,k,c,d,e,f]=false:=by unfold pJ;rw [show iP (dK [a,k,c,d,e,f])=false from ha,Bool.false_and]
    rw [hb];exact ⟨(o,T2),⟨q1,by simp⟩,aYt (by omega) hx hd.ud q2 ha (aN (by omega)) rfl rfl rfl⟩
   | true =>
    have hb:pJ dl dc [a,k,c,d,e,f]=(dI dl [] dc [a,k,c,d,e,f] && (tU dl [] dc [a,k,c,d,e,f]).isNone):=by unfold pJ;rw [show iP (dK [a,k,c,d,e,f])=true from ha,hZ]
    rw [hb];cases hc:dI dl [] dc [a,k,c,d,e,f] with
    | false =>
     rw [hc] at q4
     exact ⟨(o,T3),⟨q3,by simp⟩,aYs (by omega) hx hd.ud q2 ha q4 rfl (aN (by omega)) rfl rfl rfl⟩
    | true =>
     rw [hc] at q4
     cases hr:tU dl [] dc [a,k,c,d,e,f] with
     | some z =>
      rw [hr] at q2
      exact ⟨(o,T3),⟨q3,by simp⟩,aYr (by omega) hx hd.ud q2 ha q4 rfl rfl (aN (by omega)) rfl rfl rfl⟩
     | none =>
      rw [hr] at q2
      exact ⟨(o++[a],T3),⟨q3,by simp⟩,aYq (o:=o) (o':=o++[a]) (by omega) hx hd.ud q2 ha q4 rfl rfl ⟨rfl,by omega⟩ (aN (by omega)) (by simp) (by simp) rfl rfl rfl⟩)
  (fun acc hI=>aYu (by omega)) (acc:=([],[])) ⟨cA.nil,by simp⟩
 obtain ⟨o,T1⟩:=acc;dsimp only at h1 h2 h3
 rw [List.take_length] at h2
 rw [show aV dl dc=o from h2.symm]
 exact bRu h3
end
end
section
structure bEr (sk:Lqq) (m0 mx:Int) (i:Nat):Prop where
 us:uni 2 sk
 len:sk.length=i
 deck:m0≤mx∧mx≤m0+2*(i:Int)
 mem:∀ x∈sk,skB x=true∧x.getD 0 0≤3*(i:Int)-2
 tim:∀ x∈sk,x.getD 1 0≤16000
 up:sk.Pairwise fun a b=>a.getD 0 0<b.getD 0 0
theorem bEr.snoc{sk:Lqq}{m0 mx:Int}{i:Nat}(h:bEr sk m0 mx i)(hi:i<100){t E1:Int}(ht : -1≤t∧t≤16000)(hm:mx≤E1∧E1≤mx+2):bEr (sk++[[3*(i:Int)+1,t]]) m0 E1 (i+1):=by
 obtain ⟨h1,h2,h3,h4,h6,h5⟩:=h;refine ⟨aKv h1 rfl,by simp [h2],by omega,fun x hx => ?_,fun x hx => ?_,?_⟩
 ·rcases iE.1 hx with hx | hx
  ·exact ⟨(h4 x hx).1,by have:=(h4 x hx).2;omega⟩
  ·rw [List.mem_singleton.1 hx]
   exact ⟨zC.2 ⟨⟨show 1≤3*(i:Int)+1 by omega,show 3*(i:Int)+1≤999 by omega⟩,ht.1,show t≤360000 by omega⟩,show 3*(i:Int)+1≤_ by omega⟩
 ·rcases iE.1 hx with hx | hx
  ·exact h6 x hx
  ·rw [List.mem_singleton.1 hx]
   exact ht.2
 ·rw [List.pairwise_append]
  refine ⟨h5,List.pairwise_singleton _ _,fun x hx y hy => ?_⟩
  rw [List.mem_singleton.1 hy];have:=(h4 x hx).2;show x.getD 0 0<3*(i:Int)+1;omega
theorem bRc{nd:Int}{l:List Int}{r0 m1 t2:Int}(hr:0≤r0∧r0≤30)(hm:0≤m1∧m1≤1000):∃ sk mx tt,bEr sk m1 mx r0.toNat∧aG Tp 1 (sub (cd Tryz.f7) ca) (kR nd l r0 0 0 [] m1 t2) (.exit 0) (kR nd l r0 r0.toNat sk.length (sk.flatten.map aA) mx tt):=by
 obtain ⟨A,hI,hL⟩:=aG.ex (P:=Tp) (k:=1) (b:=sub (cd Tryz.f7) ca) (e := .exit 0) (fun i (A:Lqq × Int × Int)=>kR nd l r0 i A.1.length (A.1.flatten.map aA) A.2.1 A.2.2) (fun A=>kR nd l r0 r0.toNat A.1.length (A.1.flatten.map aA) A.2.1 A.2.2)
  (fun i A=>bEr A.1 m1 A.2.1 i) (by simp) r0.toNat
  (fun i A hi hA=>by
   obtain ⟨sk,mx,tt⟩:=A;have hd:=hA.deck;have hl:=hA.len;dsimp only at hd hl
   obtain ⟨r,m,t,e⟩:∃ r m t,bW 20 l mx tt=(r,m,t):=⟨_,_,_,rfl⟩;have b:=fO 20 l mx tt;rw [e] at b
   dsimp only at b
   obtain ⟨c,m',t',e'⟩:∃ r m2 t2,pG 12 l m t=(r,m2,t2):=⟨_,_,_,rfl⟩;have b':=aKu 12 l m t;rw [e'] at b'
   dsimp only at b'
   have Cq:mx≤m'∧m'≤mx+2:=by omega
   have hmx:0≤mx∧mx≤1000000000:=by omega
   have Q5:0≤m∧m≤1000000000:=by omega
   have hsl:sk.length+1≤1000000:=by omega
   cases c with
   | true =>
    refine ⟨(sk++[[3*(i:Int)+1,-1]],m',t'),hA.snoc (by omega) (by omega) Cq,?_⟩
    exact aXn (by omega) (by show _∧_;omega) (by show _∧_;omega) hmx e (by show _∧_;omega) (by show _∧_;omega) Q5 e' rfl ⟨rfl,hsl⟩ (aN (by omega)) rfl (by simp) (by simp)
   | false =>
    refine ⟨(sk++[[3*(i:Int)+1,15000+50*r]],m',t'),hA.snoc (by omega) (by omega) Cq,?_⟩
    exact aXo (by omega) (by show _∧_;omega) (by show _∧_;omega) hmx e (by show _∧_;omega) (by show _∧_;omega) Q5 e' rfl ⟨rfl,hsl⟩ (aN (by omega)) rfl (by simp) (by simp))
  (fun A _=>aXp (by omega)) (acc:=([],m1,t2)) ⟨fun x h=>by simp at h,rfl,⟨aNr _,by show m1≤_;omega⟩,fun x h=>by simp at h,fun x h=>by simp at h,.nil⟩
 exact ⟨_,_,_,hI,hL⟩
theorem bRd{l:List Int}{sk:Lqq}{r7 m8 t9:Int}(hr:0≤r7∧r7≤100)(hu:uni 2 sk)(hs:1≤sk.length∧sk.length≤100)(hm:0≤m8∧m8≤1000):∃ dc nu mx tt,aPf sk dc nu mx r7.toNat∧aG Tp 1 (sub (cd Tryz.f7) bp) (fE l sk r7 0 0 [] 0 m8 t9) (.exit 2) (fE l sk r7 r7.toNat dc.length (dc.flatten.map aA) nu mx tt):=by
 obtain ⟨A,hI,hL⟩:=aG.ex (P:=Tp) (k:=1) (b:=sub (cd Tryz.f7) bp) (e := .exit 2) (fun j (A:Lqq × Int × Int × Int)=>fE l sk r7 j A.1.length (A.1.flatten.map aA) A.2.1 A.2.2.1 A.2.2.2) (fun A=>fE l sk r7 r7.toNat A.1.length (A.1.flatten.map aA) A.2.1 A.2.2.1 A.2.2.2)
  (fun j A=>aPf sk A.1 A.2.1 A.2.2.1 j) (by simp) r7.toNat
  (fun j A hj hA=>by
   obtain ⟨Du,N4,E1,Mu,h1,h2⟩:=bKj (l:=l) (tt:=A.2.2.2) hA (r7:=r7) (by omega) hr.2 hu hs
   exact ⟨(Du,N4,E1,Mu),h1,h2⟩)
  (fun A _=>aXu (by omega)) (acc:=([],0,m8,t9)) ⟨fun x h=>by simp at h,rfl,⟨aNr _,by show (0:Int)≤_;omega⟩,⟨hm.1,by show m8≤_;omega⟩,fun x h=>by simp at h,.nil⟩
 exact ⟨_,_,_,_,hI,hL⟩
theorem bRe{ns nd:Int}{l:List Int}{nx st:Int}(hns:1≤ns∧ns≤30)(hnd:0≤nd∧nd≤40)(hnx:0≤nx∧nx≤900):∃ sk dc mx tt,cT 30 sk dc∧(sk.length:Int)≤ns∧(dc.length:Int)≤nd∧(0≤mx∧mx≤4000)∧(sk.Pairwise fun a b=>a.getD 0 0<b.getD 0 0)∧(dc.Pairwise fun a b=>a.getD 0 0<b.getD 0 0)∧(∀ x∈dc,x.getD 0 0≤80)∧(∀ x∈sk,x.getD 0 0≤88∧x.getD 1 0≤16000) ∧
  FMM Tp 7 [.ptr 0 0,.p (aA ns),.p (aA nd)] [some (jC l nx st)] (.p (.agg (dQ 30 sk dc))) [some (jC l mx tt)]:=by
 obtain ⟨r0,m1,t2,e0⟩:∃ r m t,mV 1 ns l nx st=(r,m,t):=⟨_,_,_,rfl⟩;have b0:=zD 1 ns l nx st;rw [e0] at b0
 dsimp only at b0
 obtain ⟨sk,mx,tt,hS,Ta⟩:=bRc (nd:=nd) (l:=l) (r0:=r0) (m1:=m1) (t2:=t2) (by omega) (by omega)
 have hsl:=hS.len;have hsd:=hS.deck;obtain ⟨r7,m8,t9,e7⟩:∃ r m t,bW (nd+1) l mx tt=(r,m,t):=⟨_,_,_,rfl⟩;have b7:=fO (nd+1) l mx tt;rw [e7] at b7
 dsimp only at b7
 obtain ⟨dc,nu,E1,Mu,hM,P0⟩:=bRd (l:=l) (sk:=sk) (r7:=r7) (m8:=m8) (t9:=t9) (by omega) hS.us (by omega) (by omega)
 have hml:=hM.len;have hmd:=hM.deck;have hnod:∀ {f:Lqq},(f.Pairwise fun a b=>a.getD 0 0<b.getD 0 0)→(aM f 0).Nodup:=fun {f} h=>by
  unfold aM;rw [List.Nodup,List.pairwise_map];exact h.imp fun h=>by omega
 refine ⟨sk,dc,E1,Mu,⟨hS.us,hM.ud,by omega,by omega,by omega,fun x hx=>(hS.mem x hx).1,fun x hx=>(hM.mem x hx).1.1,hnod hS.up,hnod hM.up,fun x hx=>(hM.mem x hx).1.2.1,fun x hx=>(hM.mem x hx).1.2.2⟩,by omega,by omega,by omega,hS.up,hM.up,fun x hx => ?_,fun x hx=>⟨?_,hS.tim x hx⟩,?_⟩
 ·have h1:=(hM.mem x hx).2
  have h2:=hM.num;omega
 ·have:=(hS.mem x hx).2
  omega
 exact bRh (by omega) (by omega) e0 Ta (by show _∧_;omega) (by omega) e7 P0
end
end KV
end Go.Proofs
section
namespace Go.Proofs
open Go.RowKit
namespace KV
open Tryz
variable {P:Program} {n:Nat}
def aFg{α:Type}(F:Fence)(n:Nat)(P:Program)(g:Nat)(lb:Array Value)(encs:α→Array Value)(R:α→World→World→Prop)(Kp:World→World→Prop)(S Sp:List α→Prop)(N:Nat)(w:World):Prop :=
 ∀ (l:Nat) (J Jx:List α→World→Prop) (W:World),Below w.heap.size w W→AbidesFrom W.heap.size J→AbidesFrom W.heap.size Jx →
  (∀ pre x W0 W1,J pre W0→W0.grownBy W1 none→R x W0 W1→pre.length<N→YieldAt F (n-1) P l (encs x) W1 fun e W' =>
   (e = .returned (.bool true)∧J (pre++[x]) W'∧Kp W0 W')∨(e = .returned (.bool false)∧Jx (pre++[x]) W')) →
  J [] W →
  CallsIn F n P g (#[.func (.yield l) #[] #[]]++lb) W fun e W'=>(∃ v,e = .returned v)∧((∃ xs,S xs∧J xs W')∨(∃ pre,Sp pre∧Jx pre W'))

def bGc{α:Type}(B:Nat)(Kp:World→World→Prop)(I:List α→World→Prop)(Ix:Code→List α→World→Prop)(xs:List α)(V W:World):Exit→Act→World→Prop
 | .normal,_,W'=>KeepsFrom B W W'∧Kp V W'∧I xs W'
 | .ret,_,W'=>KeepsFrom B W W'∧Ix .ret xs W'
 | .exit id,_,W'=>KeepsFrom B W W'∧Ix (.exit id) xs W'
 | .goto t,_,W'=>KeepsFrom B W W'∧Ix (.goto t) xs W'
 | .panic _,_,_=>False
 | .outgrown,_,_=>False

theorem sH{α:Type}{F:Fence}{g:Operand}{ps:Array Tmp}{assign body:Code}{Q:Exit→Act→World→Prop}{a:Act}{w:World}
  (hro:F.round=none) (h1:1≤n) {gf:Nat} {lb:Array Value} (hg:a.eval g = .func (.func gf) #[] lb) (hFg:F.fn gf) (eg:∀ args w,(callFunc gf args).run P w = .ok (.enter gf args) w)
  {encs:α→Array Value} {R:α→World→World→Prop} {Kp:World→World→Prop} {S Sp:List α→Prop} {N:Nat} {w0:World} (hseq:aFg F (n-1) P gf lb encs R Kp S Sp N w0)
  (hKt:∀ {A B C:World},Kp A B→Kp B C→Kp A C) (hKb:∀ (W:World) (l:Nat) (o o':Obj),w.heap.size≤l→W.heap[l]? = some o→o.isCells=false→o.isWalk=false→Kp W (W.putObj l o')) (Nr:Below w0.heap.size w0 w) (hps:∀ x,(encs x).size=ps.size)
  (I:List α→World→Prop) (Ix:Code→List α→World→Prop) (hI:OwnFrom w.heap.size I) (hIx:∀ c,OwnFrom w.heap.size (Ix c)) (h0:I [] w) (Ax:List α→α→World→Act→World→Prop) (hAx:∀ pre x V a',OwnFrom w.heap.size (fun (_:Unit) W=>Ax pre x V a' W))
  (hassign:∀ (l:Nat) (pre:List α) (x:α) (V W:World) (K:Act→World→Prop),I pre V→V.grownBy W none→R x V W→(∀ a' W',KeepsFrom w.heap.size W W'→Ax pre x V a' W'→K a' W') →
   assign.wpIn (F.inRound l) (n-1-1) P (Exit.then K (fun _ _ _=>False)) { tmps:=(ps.zip (encs x)).foldl (fun t (p,v)=>t.setIfInBounds p v) a.tmps,defers:=[] } W)
  (hbody:∀ (l:Nat) (pre:List α) (x:α) (a':Act) (V W:World),w.heap.size≤l→(∃ r,W.heap[l]? = some (.loop r))→Ax pre x V a' W→pre.length<N→body.wpIn (F.inRound l) (n-1-1) P (bGc w.heap.size Kp I Ix (pre++[x]) V W) a' W)
  (hdone:∀ (D:Nat) (xs:List α) (W:World),w.heap.size≤D→S xs→I xs W→W.heap[D]? = some (.deferred (some []))→Q .normal { a with defers:={ target := .collected D,args := #[] }::a.defers } W)
  (hstop:∀ (D:Nat) (c:Code) (pre:List α) (W:World),w.heap.size≤D→Sp pre→Ix c pre W→W.heap[D]? = some (.deferred (some []))→c.wpIn F n P Q { a with defers:={ target := .collected D,args := #[] }::a.defers } W) :
  (Code.rangeFunc g ps assign body).wpIn F n P Q a w:=by
 refine wpIn_rangeFunc fun fn hfn => ?_
 rw [hro];obtain ⟨rc,hrc⟩:∃ rc:LoopState→Option Code→Loop,rc=fun st pe=>{ state:=st,pending:=pe,fn,tmps:=a.tmps,params:=ps,assign,body,defers:=w.heap.size }:=⟨_,rfl⟩
 obtain ⟨W1,Hh⟩:∃ W1,(w.alloc (.deferred (some []))).alloc (.loop (rc .ready none))=W1:=⟨_,rfl⟩;have hsz:W1.heap.size=w.heap.size+2:=by rw [← Hh];simp
 have P0:W1.heap[w.heap.size+1]? = some (.loop (rc .ready none)):=by
  have:=World.alloc_heap_new (w.alloc (.deferred (some []))) (.loop (rc .ready none));rw [World.size_alloc] at this
  rw [← Hh];exact this
 have P8:W1.heap[w.heap.size]? = some (.deferred (some [])):=by
  rw [← Hh];exact (Below.heap_alloc _ _ _ (by simp)).trans (World.alloc_heap_new w _)
 have Ud:I [] W1:=by rw [← Hh];exact hI.alloc _ (hI.alloc _ h0)
 have Ci:Below w0.heap.size w0 W1:=by
  rw [← Hh];exact Nr.trans ((((Below.refl _ w).alloc (dH _) _).alloc (by simp) _).mono Nr.size)
 let Bk (st:LoopState) (pe:Option Code) (W:World):Prop:=W.heap[w.heap.size+1]? = some (.loop (rc st pe))∧W.heap[w.heap.size]? = some (.deferred (some []))
 have bkKeep:∀ {st:LoopState} {pe:Option Code} {A B:World} {row:Option Nat},Bk st pe A→A.grownBy B row→(∀ r,row=some r→∃ o:Obj,A.heap[r]? = some o∧o.isWalk=true)→Bk st pe B:=fun hs Gv hr =>
  ⟨(grownBy_keeps Gv hr hs.1 rfl).trans hs.1,(grownBy_keeps Gv hr hs.2 rfl).trans hs.2⟩
 have walkOwn:∀ {A:World} {row:Option Nat},(∀ r,row=some r→W1.heap.size≤r∧∃ o:Obj,A.heap[r]? = some o∧o.isWalk=true)→∀ r,row=some r→w.heap.size≤r∧∃ o:Obj,A.heap[r]? = some o∧o.isCells=false:=fun hr r e=>by
  obtain ⟨hB,o,ho,hw⟩:=hr r e;exact ⟨by omega,o,ho,Obj.not_cells_of_walk hw⟩
 refine ⟨w.heap.size+1,[{ target := .collected w.heap.size,args := #[] }],W1,{ target := .fn (.func gf) lb,args := #[.func (.yield (w.heap.size+1)) #[] #[]] },W1,gf,
  #[.func (.yield (w.heap.size+1)) #[] #[]]++lb,W1,?_,?_,?_,?_,fun _=>h1,?_⟩
 ·rw [← Hh,hrc];exact run_enterLoop_outer _ _ _ _ _
 ·simp only [resolve,hg]
  simp [go_sem]
 ·intro f' Rh;simp [Target.leads] at Rh;subst Rh;exact hFg
 ·simp [invoke,go_sem,eg]
 ·refine (hseq (w.heap.size+1) (fun pre W=>I pre W∧Bk .ready none W) (fun pre W=>∃ c,Ix c pre W∧Bk .done (some c) W) W1 Ci
   (fun s A B row hs Gv hr=>⟨hI s A B row hs.1 Gv (walkOwn hr),bkKeep hs.2 Gv fun r e=>(hr r e).2⟩)
   (fun s A B row hs Gv hr=>by
    obtain ⟨c,hc,hb⟩:=hs;exact ⟨c,hIx c s A B row hc Gv (walkOwn hr),bkKeep hb Gv fun r e=>(hr r e).2⟩)
   ?_ ⟨Ud,P0,P8⟩).mono ?_
  ·-- a round
   rintro pre x V W ⟨hi,hbk⟩ Gv hR hlen;have hbW:=bkKeep hbk Gv (fun r e=>by cases e)
   have hlt:w.heap.size+1<W.heap.size:=(Dz.1 hbW.1).1;have hy:=run_yield (P:=P) (args:=encs x) hbW.1 (by rw [hrc];exact hps x)
   rw [hrc] at hy
   refine ⟨fn,_,assign,body,hy,roundIn_of_wpIn hfn (hassign _ pre x V W _ hi Gv hR ?_)⟩;clear hy;intro a' Wa hkf hax;have hl:=hkf.same _ _ (by omega) hbW.1 rfl
   have hk:=hkf.same _ _ (dH _) hbW.2 rfl;have hlta:w.heap.size+1<Wa.heap.size:=(Dz.1 hl).1;refine ⟨_,run_beginRound hl (by rw [hrc]),?_⟩
   have Ct:(Wa.putObj (w.heap.size+1) (.loop { rc .ready none with state := .busy })).heap[w.heap.size+1]? = some (.loop { rc .ready none with state := .busy }):=World.putObj_heap_same hlta
   have Fx:(Wa.putObj (w.heap.size+1) (.loop { rc .ready none with state := .busy })).heap[w.heap.size]? = some (.deferred (some [])):=(World.putObj_heap_other (by omega)).trans hk
   refine wpIn_mono (hbody _ pre x a' V _ (by omega) ⟨_,Ct⟩ ((hAx pre x V a').putObj (s:=()) _ hax (by omega) hl rfl) hlen) ?_
   have fin:∀ (jump:Option Code) (W3:World),KeepsFrom w.heap.size (Wa.putObj (w.heap.size+1) (.loop { rc .ready none with state := .busy })) W3 →
     (Instr.endRound (w.heap.size+1) jump).run P W3 = .ok (.bool jump.isNone) (W3.putObj (w.heap.size+1) (.loop (rc (if jump.isNone then .ready else .done) jump))) ∧
     W3.heap[w.heap.size+1]? = some (.loop { rc .ready none with state := .busy })∧Bk (if jump.isNone then .ready else .done) jump (W3.putObj (w.heap.size+1) (.loop (rc (if jump.isNone then .ready else .done) jump))):=fun jump W3 Il=>by
    have Cd:=Il.same _ _ (by omega) Ct rfl
    have hrun:=run_endRound (P:=P) jump Cd;rw [hrc] at hrun
    refine ⟨by rw [hrc];exact hrun,Cd,?_⟩
    exact ⟨World.putObj_heap_same (Dz.1 Cd).1,(World.putObj_heap_other (by omega)).trans (Il.same _ _ (dH _) Fx rfl)⟩
   rintro e a3 W3 hp;cases e with
   | normal =>
    obtain ⟨Il,Qc,I2⟩:=hp;obtain ⟨hr,Cd,K7⟩:=fin none W3 Il;exact ⟨_,_,hr,.inl ⟨rfl,⟨hI.putObj _ I2 (by omega) Cd rfl,K7⟩,hKt Qc (hKb _ _ _ _ (by omega) Cd rfl rfl)⟩⟩
   | ret =>
    obtain ⟨Il,I2⟩:=hp;obtain ⟨hr,Cd,K7⟩:=fin (some .ret) W3 Il;exact ⟨_,_,hr,.inr ⟨rfl,.ret,(hIx _).putObj _ I2 (by omega) Cd rfl,K7⟩⟩
   | exit id =>
    obtain ⟨Il,I2⟩:=hp;obtain ⟨hr,Cd,K7⟩:=fin (some (.exit id)) W3 Il;exact ⟨_,_,hr,.inr ⟨rfl,.exit id,(hIx _).putObj _ I2 (by omega) Cd rfl,K7⟩⟩
   | goto t =>
    obtain ⟨Il,I2⟩:=hp;obtain ⟨hr,Cd,K7⟩:=fin (some (.goto t)) W3 Il;exact ⟨_,_,hr,.inr ⟨rfl,.goto t,(hIx _).putObj _ I2 (by omega) Cd rfl,K7⟩⟩
   | panic ch=>exact hp.elim
   | outgrown=>exact hp.elim
  ·-- behind the iterator
   rintro e W2 ⟨⟨v,rfl⟩,(⟨xs,hS,hi,hb⟩ | ⟨pre,hSp,c,hi,hb⟩)⟩
   ·have:=run_endLoop (P:=P) hb.1 (by rw [hrc];simp)
    rw [hrc] at this
    exact ⟨none,_,this,hdone _ xs _ (dH _) hS (hI.putObj _ hi (by omega) hb.1 rfl) ((World.putObj_heap_other (by omega)).trans hb.2)⟩
   ·have:=run_endLoop (P:=P) hb.1 (by rw [hrc];simp)
    rw [hrc] at this
    exact ⟨some c,_,this,hstop _ c pre _ (dH _) hSp ((hIx c).putObj _ hi (by omega) hb.1 rfl) ((World.putObj_heap_other (by omega)).trans hb.2)⟩
end KV
end Go.Proofs
end
section
namespace Go.Proofs
open Go.RowKit
namespace KV
open Tryz
variable {P:Program} {C C0:Cx} {M M0:Mem} {w w0:World}
abbrev lA(l:List Int):AO := .row 3 l.length (l.map aA)
def bFz(P:Program)(x:List Int × Value)(W0 W1:World):Prop:=x.1.length≤1000∧∃ C1:Cx,aP P C1 [some (lA x.1)] W1∧Rep C1 [some (lA x.1)] W1 (.own 0) x.2∧∀ b,C1.ι 0=some b→W0.heap.size≤b

theorem nY{W0 W1:World}(hg:W0.grownBy W1 none)(b:Nat)(hb:b<W0.heap.size):W1.heap[b]? = W0.heap[b]? := hg.block b hb (fun e=>by cases e)
theorem bGa{M':Mem}{W0 W1:World}{x:List Int × Value}(hM:aP P C M' W0)(hg:W0.grownBy W1 none)(hR:bFz P x W0 W1) :
  ∃ C2,aP P C2 (M'++[some (lA x.1)]) W1∧Fr C M' W0 C2 (M'++[some (lA x.1)]) W1∧Rep C2 (M'++[some (lA x.1)]) W1 (.own M'.length) x.2:=by
 obtain ⟨_,C1,h1,h2,h3⟩:=hR
 let C2:Cx:={ ι:=fun i=>if i=M'.length then C1.ι 0 else C.ι i,κ:=fun i=>if i=M'.length then C1.κ 0 else C.κ i,F:=C.F }
 have old:∀ (i:Nat) (o:AO),M'[i]? = some (some o)→i<M'.length∧(M'++[some (lA x.1)])[i]? = some (some o)∧C2.ι i=C.ι i∧C2.κ i=C.κ i:=fun i o h=>by
  have hl:=(Bc.1 h).1;refine ⟨hl,by rw [aAz hl];exact h,if_neg (by omega),if_neg (by omega)⟩
 have cls:∀ (i:Nat) (o:AO),(M'++[some (lA x.1)])[i]? = some (some o)→M'[i]? = some (some o)∨(i=M'.length∧o=lA x.1):=fun i o h=>by
  rcases Nat.lt_or_ge i M'.length with hl | hl
  ·rw [aAz hl] at h;exact .inl h
  ·rw [aAy hl] at h
   cases hd:i-M'.length with
   | zero =>
    rw [hd] at h
    simp at h
    exact .inr ⟨by omega,h.symm⟩
   | succ j=>rw [hd] at h;simp at h
 have new:C2.ι M'.length=C1.ι 0∧C2.κ M'.length=C1.κ 0:=⟨if_pos rfl,if_pos rfl⟩;have f:Fr C M' W0 C2 (M'++[some (lA x.1)]) W1:=by
  refine ⟨hg.os,hg.tape,hg.output,hg.size,fun b hb _=>nY hg b hb,fun i o h => ?_,fun i o h ty n cs hm => ?_,fun i o h o' h' hl => ?_,fun i o b h hl hb => ?_,fun b h=>h,fun b h => .inl h⟩
  ·obtain ⟨_,q1,q2,q3⟩:=old i o h
   exact ⟨⟨o,q1⟩,q2,q3⟩
  ·rw [(old i o h).2.1] at hm;cases hm;exact ⟨cs,h⟩
  ·rw [(old i o h).2.1] at h';cases h';exact hl
  ·rcases cls i o h with q | ⟨rfl,rfl⟩
   ·rw [(old i o q).2.2.1] at hb;exact .inr ⟨i,o,q,hl,hb⟩
   ·rw [new.1] at hb;exact .inl (h3 b hb)
 have hL:=hM.le f;have T0:=h1.row 0 3 x.1.length (x.1.map aA) rfl;refine ⟨C2,⟨fun i ty n cs hm => ?_,fun i ty cs hm => ?_,fun i es cl hm => ?_,fun i i' o1 o2 b q1 l1 q2 l2 e1 e2 => ?_,fun i o b hm hl hb => ?_,fun b hb=>Cg (hM.Fs b hb) hg.size,fun i o b hm hl hb => ?_⟩,f,?_⟩
 ·rcases cls i _ hm with q | ⟨rfl,q⟩
  ·obtain ⟨hlt,_,q2,q3⟩:=old i _ q
   rw [q2,q3]
   rcases hM.row _ _ _ _ q with h4 | ⟨b,arr,inf,p0,p1,p2,p3,p4,p5,p6,p7,p8⟩
   ·exact .inl h4
   ·exact .inr ⟨b,arr,inf,p0,by rw [nY hg b (hM.lt i _ b q rfl p0)];exact p1,p2,p3,p4,p5,p6,fun j hj=>(p7 j hj).mono hL.F hL.fz,p8⟩
  ·cases q
   rw [new.1,new.2]
   rcases T0 with h4 | ⟨b,arr,inf,p0,p1,p2,p3,p4,p5,p6,p7,p8⟩
   ·exact .inl h4
   ·refine .inr ⟨b,arr,inf,p0,p1,p2,p3,p4,p5,p6,fun j hj => ?_,p8⟩
    have:=p7 j hj;revert this;rw [lK];generalize arr.getD j undef=u;intro h;cases h;exact .v _
 ·rcases cls i _ hm with q | ⟨rfl,q⟩
  ·obtain ⟨b,arr,p0,p1,p2,p3,p4⟩:=hM.box _ _ _ q
   exact ⟨b,arr,by rw [(old i _ q).2.2.1];exact p0,by rw [nY hg b (hM.lt i _ b q rfl p0)];exact p1,p2,fun j hj=>(p3 j hj).mono hL,p4⟩
  ·cases q
 ·rcases cls i _ hm with q | ⟨rfl,q⟩
  ·obtain ⟨b,arr,p0,p1,p2,p3⟩:=hM.mp _ _ _ q
   refine ⟨b,arr,by rw [(old i _ q).2.2.1];exact p0,by rw [nY hg b (hM.lt i _ b q rfl p0)];exact p1,p2,fun j hj => ?_⟩
   obtain ⟨en,r1,r2,r3,r4⟩:=p3 j hj;exact ⟨en,r1,r2,r3,r4.mono hL.F hL.fz⟩
  ·cases q
 ·rcases cls i _ q1 with c1 | ⟨rfl,rfl⟩ <;> rcases cls i' _ q2 with c2 | ⟨rfl,rfl⟩
  ·rw [(old i _ c1).2.2.1] at e1
   rw [(old i' _ c2).2.2.1] at e2
   exact hM.inj _ _ _ _ _ c1 l1 c2 l2 e1 e2
  ·rw [(old i _ c1).2.2.1] at e1
   rw [new.1] at e2
   have:=hM.lt _ _ _ c1 l1 e1;have:=h3 b e2;omega
  ·rw [new.1] at e1
   rw [(old i' _ c2).2.2.1] at e2
   have:=hM.lt _ _ _ c2 l2 e2;have:=h3 b e1;omega
  ·rfl
 ·rcases cls i _ hm with c1 | ⟨rfl,rfl⟩
  ·rw [(old i _ c1).2.2.1] at hb
   exact hM.nF _ _ _ c1 hl hb
  ·rw [new.1] at hb
   intro hF;have:=hM.Fs b hF;have:=h3 b hb;omega
 ·rcases cls i _ hm with c1 | ⟨rfl,rfl⟩
  ·rw [(old i _ c1).2.2.1] at hb
   exact Cg (hM.lt _ _ _ c1 hl hb) hg.size
  ·rw [new.1] at hb
   exact h1.lt 0 _ b rfl rfl hb
 ·cases h2 with
  | own _ _ q0 qa q =>
   refine .own _ _ q0 ⟨lA x.1,by rw [aAy (dH _),aVe];rfl⟩ fun ty n cs hm => ?_
   rw [aAy (dH _),aVe] at hm
   rw [new.1,new.2];exact q ty n cs hm

theorem oZ:∀ {m m':Mem},nmM m=true→nmM m'=true→nmM (m++m')=true
 | [],_,_,h=>h
 | none::r,m',h,h'=>by
  have:nmM (r++m')=true:=oZ (m:=r) h h';exact this
 | some x::r,m',h,h'=>by
  cases x with
  | row ty n cs =>
   simp only [nmM,Bl] at h
   show (jA cs && nmM (r++m'))=true;rw [h.1,oZ h.2 h'];rfl
  | box ty l =>
   simp only [nmM,Bl] at h
   show (nmL l && nmM (r++m'))=true;rw [h.1,oZ h.2 h'];rfl
  | mp=>exact oZ (m:=r) h h'
  | pk=>exact oZ (m:=r) h h'
  | dead=>exact oZ (m:=r) h h'
theorem kB:∀ {m m':Mem},eU m=true→eU m'=true→eU (m++m')=true
 | [],_,_,h=>h
 | none::r,m',h,h'=>kB (m:=r) h h'
 | some x::r,m',h,h'=>by
  cases x with
  | mp=>simp [eU] at h
  | pk=>simp [eU] at h
  | row=>exact kB (m:=r) h h'
  | box=>exact kB (m:=r) h h'
  | dead=>exact kB (m:=r) h h'

theorem bGb{M':Mem}{W W':World}{C1:Cx}{row:Option Nat}(hn:xW M')(hq:nmM M'=true)(hF:∀ b,C.F b→b<w.heap.size)(h1:aP P C1 M' W)(h2:Fr C M w C1 M' W)(hg:W.grownBy W' row)
  (hr:∀ r,row=some r→w.heap.size≤r∧∃ o:Obj,W.heap[r]? = some o∧o.isCells=false):∃ C',C'.ι=C1.ι∧C'.κ=C1.κ∧aP P C' M' W'∧Fr C M w C' M' W':=by
 let C':Cx:=⟨C1.ι,C1.κ,fun b=>C1.F b∧(b<w.heap.size∨kU W b),[]⟩
 have hM:aP P C' M' W:=by
  refine ⟨fun i ty n cs hm => ?_,fun i ty cs hm => ?_,fun i es cl hm=>absurd hm (hn.1 _ _ _),h1.inj,fun i o b ho hl hb hf=>h1.nF i o b ho hl hb hf.1,fun b hb=>h1.Fs b hb.1,h1.lt⟩
  ·rcases h1.row _ _ _ _ hm with h4 | ⟨b,arr,inf,q0,q1,q2,q3,q4,q5,q6,q7,q8⟩
   ·exact .inl h4
   ·exact .inr ⟨b,arr,inf,q0,q1,q2,q3,q4,q5,q6,fun j hj=>(q7 j hj).shrink (fun b hb hs=>⟨hb,.inr hs⟩) (oQ ((aBj hq).1 _ _ _ _ hm) j hj),q8⟩
  ·obtain ⟨b,arr,q0,q1,q2,q3,q4⟩:=h1.box _ _ _ hm
   exact ⟨b,arr,q0,q1,q2,fun j hj=>(q3 j hj).shrink (fun b hb hs=>⟨hb,.inr hs⟩) (tR ((aBj hq).2 _ _ _ hm) j hj),q4⟩
 have f:Fr C M w C' M' W:=⟨h2.os,h2.tape,h2.out,h2.size,h2.keep,h2.ids,h2.row,h2.liv,h2.new,fun b hb=>⟨h2.F1 b hb,.inl (hF b hb)⟩,fun b hb=>h2.F2 b hb.1⟩
 have hS:∀ b,C'.F b→b<w.heap.size∨kU W b:=fun b hb=>hb.2
 have hsame:∀ b,b<W.heap.size→(b<w.heap.size∨kU W b)→W'.heap[b]? = W.heap[b]? := fun b hb hd=>hg.block b hb (fun e=>by
  obtain ⟨q1,o,q2,q3⟩:=hr b e.symm
  rcases hd with hd | hd
  ·omega
  ·exact iO q2 q3 hd)
 have hFz:∀ b,C'.F b→W'.heap[b]? = W.heap[b]? := fun b hb=>hsame b (hM.Fs b hb) (hS b hb)
 have hL:Le C' C' M' M' W W':=⟨fun _ o h=>⟨o,h⟩,fun _ _ _ _ _ cs h=>⟨cs,h⟩,fun _ o h o' h' hl=>by rw [h] at h';cases h';exact ⟨hl,rfl,rfl⟩,fun _ h=>h,hFz⟩
 refine ⟨C',rfl,rfl,⟨fun i ty n cs hm => ?_,fun i ty cs hm => ?_,fun i es cl hm=>absurd hm (hn.1 _ _ _),hM.inj,hM.nF,fun b hb=>Cg (hM.Fs b hb) hg.size,fun i o b ho hl hb=>Cg (hM.lt i o b ho hl hb) hg.size⟩,
  ⟨hg.os.trans f.os,hg.tape.trans f.tape,hg.output.trans f.out,fM f.size hg.size,fun b hb hno=>(hsame b (Cg hb f.size) (.inl hb)).trans (f.keep b hb hno),f.ids,f.row,f.liv,f.new,f.F1,f.F2⟩⟩
 ·rcases hM.row _ _ _ _ hm with h4 | ⟨b,arr,inf,q0,q1,q2,q3,q4,q5,q6,q7,q8⟩
  ·exact .inl h4
  ·exact .inr ⟨b,arr,inf,q0,(hsame b (Dz.1 q1).1 (.inr (eN q1))).trans q1,q2,q3,q4,q5,q6,fun j hj=>(q7 j hj).mono hL.F hL.fz,q8⟩
 ·obtain ⟨b,arr,q0,q1,q2,q3,q4⟩:=hM.box _ _ _ hm
  exact ⟨b,arr,q0,(hsame b (Dz.1 q1).1 (.inr (eN q1))).trans q1,q2,fun j hj=>(q3 j hj).mono hL,q4⟩
theorem aQh{C1 C':Cx}{M':Mem}{W W':World}{i:Nat}{u:Value}(h:Rep C1 M' W (.own i) u)(e1:C'.ι=C1.ι)(e2:C'.κ=C1.κ):Rep C' M' W' (.own i) u:=by
 cases h with
 | own _ _ q0 qa q=>exact .own _ _ q0 qa fun ty n cs hm=>by rw [e1,e2];exact q ty n cs hm

def bNc(P:Program)(g:AV)(gf N:Nat)(xs:Lqq):Prop:=∀ (C:Cx) (M:Mem) (w:World) (u:Value),Rep C M w g u→(∀ b,C.F b→b<w.heap.size) →
 ∃ lb,u = .func (.func gf) #[] lb∧aFg Fence.wide 2 P gf lb (fun x:List Int × Value => #[x.2]) (bFz P) (KpG C.F) (fun ys=>ys.map (·.1)=xs) (fun ys=>ys.map (·.1) <+: xs) N w

def rfO(st:St)(p1 d:Nat)(l:List Int):St:=⟨put (put st.t (some p1) (.own st.m.length)) (some d) (.own st.m.length),st.m++[some (lA l)]⟩

section
variable {k kb gi gf p1 d id ty:Nat} {pos:String} {body:Code} {g:AV} {N:Nat} {xs:Lqq}
theorem aFf(Gf:St)(S:Lqq→St)(E ER:Lqq→List Int→St)(T:List AV)(MR:Mem)(p:Lqq→List Int→Bool){cc:Code}(hcc:cc = .rangeFunc (.tmp gi) #[p1] (.region id #[{ dst:=some d,op := .assign (.tmp p1),type:=ty,pos:=pos,after := #[],guard:=none }] false) body)
  (T6:Gf.t=T) (hT:∀ pre,(S pre).t=T) (hg:T[gi]? = some g) (hit:bNc P g gf N xs) (eg:∀ args w,(callFunc gf args).run P w = .ok (.enter gf args) w)
  (hmp:∀ pre,eU (S pre).m=true) (hq:∀ pre,nmM (S pre).m=true) (hmE:∀ pre l,eU (E pre l).m=true) (hmER:∀ pre l,eU (ER pre l).m=true) (hmR:eU MR=true) (hqR:nmM MR=true) (hlen:∀ pre,(S pre).m.length<kb) (hnrf:nrf body=true)
  (hp:∀ (x:AV),(put T (some p1) x)[p1]? = some x) {kk:Nat} {g0 g1 gR:Gh} (hkk:Gf.m.length≤kk) (T8:eU Gf.m=true) (Ua:gh kk g0 Gf=some (S [])) (hgh:∀ pre l,gh kk g1 (E pre l)=some ⟨(E pre l).t,(S (pre++[l])).m⟩) (hgR:∀ pre l,p pre l=true→gh kk gR (ER pre l)=some ⟨(ER pre l).t,MR⟩)
  (hbody:∀ pre l,pre.length<N→l.length≤1000→(p pre l=false→aC P kb body (rfO (S pre) p1 d l) .normal (E pre l))∧(p pre l=true→aC P kb body (rfO (S pre) p1 d l) .ret (ER pre l))) :
  ((∀ pre l,pre++[l] <+: xs→p pre l=false)→aC P k cc Gf .normal (S xs)) ∧
  ((∃ pre l,pre++[l] <+: xs∧p pre l=true)→aC P k cc Gf .ret ⟨T,MR⟩):=by
 have Nq:∀ pre,xW (S pre).m:=fun pre=>dO (hmp pre)
 have K6:xW MR:=dO hmR;have main:∀ (Qf:Ex→St→Prop),((∀ pre l,pre++[l] <+: xs→p pre l=false)→Qf .normal (S xs))→((∃ pre l,pre++[l] <+: xs∧p pre l=true)→Qf .ret ⟨T,MR⟩) →
   ∀ (C0:Cx) (M0:Mem) (w0:World) (a:Act) (w:World),M0.length≤k→Sim P C0 M0 w0 Gf a w→∀ (ro:Option Nat),kM ro cc→∀ (n:Nat),cc.wpIn (Fen ro) n P (fun e' a' w'=>∃ e Ah,Qf e Ah∧e'=e.toExit∧Sim P C0 M0 w0 Ah a' w') a w:=by
  intro Qf Ub Uc C0 M0 w0 a w hk hs ro hro n;subst hcc;have Kl:ro=none:=hro.resolve_right (by simp [nrf])
  subst Kl;refine aBk (n:=3) ?_;obtain ⟨C,hSl,hM,hF,hD⟩:=hs;have hini:aWl P C Gf.m w (S []).m w:=by
   obtain ⟨C1,_,h1,h2,_⟩:=dY hkk Ua (show Sim P (C.with []) Gf.m w Gf { a with defers:=[] } w from ⟨C,hSl,hM,(Fr.refl _ _ _).based [],.nil rfl (dO T8).2⟩)
   exact ⟨C1,h1,h2.unbased⟩
  rw [T6] at hSl
  obtain ⟨lb,hu,hseq⟩:=hit C Gf.m w _ (hSl.at hg) hM.Fs
  have actOf:∀ x:List Int × Value,Act:=fun x=>({ tmps:=a.tmps.setIfInBounds p1 x.2,defers:=[] }:Act).put (some d) (({ tmps:=a.tmps.setIfInBounds p1 x.2,defers:=[] }:Act).eval (.tmp p1))
  refine sH (F:=Fen none) (n:=3) rfl (by omega) (gf:=gf) (lb:=lb) hu trivial eg hseq (fun h k=>h.trans k)
   (fun W l o o' hl h1 h2 h3=>⟨by simp,fun b hb=>(grownBy_putObj' W l o').block b (Cg (hM.Fs b hb) (fM hl (Nat.le_of_lt (Dz.1 h1).1))) (fun e=>by cases e;have:=hM.Fs _ hb;omega)⟩)
   (Below.refl _ _) (fun _=>rfl)
   (fun pre W=>aWl P C Gf.m w (S (pre.map (·.1))).m W∧∀ q l,q++[l] <+: pre.map (·.1)→p q l=false)
   (fun c pre W=>c = .ret∧aWl P C Gf.m w MR W∧∃ q l,q++[l]=pre.map (·.1)∧p q l=true)
   (fun pre X Y row hs hg hr=>⟨hs.1.own (Nq _) (hq _) hM.Fs hg hr,hs.2⟩) (fun c pre X Y row hs hg hr=>⟨hs.1,hs.2.1.own K6 hqR hM.Fs hg hr,hs.2.2⟩)
   ⟨hini,fun q l h=>by simp at h⟩
   (fun pre x V a' W=>a'=({ tmps:=a.tmps.setIfInBounds p1 x.2,defers:=[] }:Act).put (some d) (({ tmps:=a.tmps.setIfInBounds p1 x.2,defers:=[] }:Act).eval (.tmp p1)) ∧
    (∃ C2,aP P C2 ((S (pre.map (·.1))).m++[some (lA x.1)]) W∧Fr C Gf.m w C2 ((S (pre.map (·.1))).m++[some (lA x.1)]) W∧Rep C2 ((S (pre.map (·.1))).m++[some (lA x.1)]) W (.own (S (pre.map (·.1))).m.length) x.2) ∧
    KpG C.F V W∧x.1.length≤1000∧∀ q l,q++[l] <+: pre.map (·.1)→p q l=false)
   (fun pre x V a' s X Y row hs hg hr=>by
    obtain ⟨e1,⟨C2,q1,q2,q3⟩,e3,e4,e5⟩:=hs;have hnr:nmM [some (lA x.1)]=true:=by
     show (jA (x.1.map aA) && nmM [])=true;rw [aBi aA (fun _=>rfl)];rfl
    obtain ⟨C',i1,i2,i3,i4⟩:=bGb (dO (kB (hmp _) (by rfl))) (oZ (hq _) hnr) hM.Fs q1 q2 hg hr
    refine ⟨e1,⟨C',i3,i4,aQh q3 i1 i2⟩,⟨fM e3.size hg.size,fun b hb => ?_⟩,e4,e5⟩
    refine (hg.block b (Cg (hM.Fs b hb) q2.size) (fun e => ?_)).trans (e3.same b hb)
    have:=(hr b e.symm).1;have:=hM.Fs b hb;omega)
   ?assign ?body ?done ?stop
  case assign =>
   intro l pre x V W K hI Gv hR hK;obtain ⟨⟨C',Fu,Nw⟩,hpre⟩:=hI;obtain ⟨C2,j1,j2,j3⟩:=bGa Fu Gv hR;have hz:(#[p1].zip #[x.2]).foldl (fun t (y:Nat × Value)=>t.setIfInBounds y.1 y.2) a.tmps=a.tmps.setIfInBounds p1 x.2:=by simp
   rw [hz];refine wpIn_region_lit (wpListIn_plain rfl fun K' Pg => ?_)
   unfold Oper.wpIn;refine ⟨fun f _=>trivial,?_⟩
   rw [Oper.semAt_plain _ _ _ (by intro c Ga;cases Ga)]
   simp only [execOp,Sem.run_pure];exact Pg _ _ (wpListIn_nil (hK _ _ (KeepsFrom.refl _ _) ⟨rfl,⟨C2,j1,Nw.trans j2,j3⟩,⟨Gv.size,fun b hb=>nY Gv b (Cg (hM.Fs b hb) Nw.size)⟩,hR.1,hpre⟩))
  case body =>
   rintro l pre x a' V W hl _ ⟨rfl,⟨C2,Hc,Fq,Fp⟩,L9,hxl,hpre⟩ hlt;have hpl:(pre.map (·.1)).length<N:=by simpa using hlt
   have hSW:dP C2 ((S (pre.map (·.1))).m++[some (lA x.1)]) W T a.tmps:=hSl.le (hM.le Fq)
   have s1:dP C2 ((S (pre.map (·.1))).m++[some (lA x.1)]) W (put T (some p1) (.own (S (pre.map (·.1))).m.length)) (({ tmps:=a.tmps,defers:=[] }:Act).put (some p1) x.2).tmps :=
    dP.put (a:={ tmps:=a.tmps,defers:=[] }) hSW Fp
   have s2:dP C2 ((S (pre.map (·.1))).m++[some (lA x.1)]) W (put (put T (some p1) (.own (S (pre.map (·.1))).m.length)) (some d) (.own (S (pre.map (·.1))).m.length)) (({ tmps:=a.tmps.setIfInBounds p1 x.2,defers:=[] }:Act).put (some d) (({ tmps:=a.tmps.setIfInBounds p1 x.2,defers:=[] }:Act).eval (.tmp p1))).tmps :=
    dP.put s1 (s1.at (hp _))
   have hnr:eU ((S (pre.map (·.1))).m++[some (lA x.1)])=true:=kB (hmp _) (by rfl)
   have hsim:Sim P (C2.with []) ((S (pre.map (·.1))).m++[some (lA x.1)]) W (rfO (S (pre.map (·.1))) p1 d x.1) (({ tmps:=a.tmps.setIfInBounds p1 x.2,defers:=[] }:Act).put (some d) (({ tmps:=a.tmps.setIfInBounds p1 x.2,defers:=[] }:Act).eval (.tmp p1))) W:=by
    refine ⟨C2,?_,Hc,(Fr.refl _ _ _).based [],.nil rfl (dO hnr).2⟩;unfold rfO;rw [hT];exact s2
   have hkl:((S (pre.map (·.1))).m++[some (lA x.1)]).length≤kb:=by
    rw [lT];exact hlen _
   have keepO:∀ {M2:Mem} {W2:World} {C3:Cx},Fr C2 ((S (pre.map (·.1))).m++[some (lA x.1)]) W C3 M2 W2→KeepsFrom w.heap.size W W2∧KpG C.F V W2:=fun f3 =>
    ⟨⟨f3.size,fun b o _ hb ho=>(f3.keep b (Dz.1 hb).1 (aGw Hc (dO hnr) hb ho)).trans hb⟩,
     L9.trans ⟨f3.size,fun b hb=>f3.keep b (Cg (hM.Fs b hb) Fq.size) (fun id o ho hl he=>Hc.nF id o b ho hl he (Fq.F1 b hb))⟩⟩
   have hmapp:(pre++[x]).map (·.1)=pre.map (·.1)++[x.1]:=by simp
   cases hpx:p (pre.map (·.1)) x.1 with
   | false =>
    refine wpIn_mono ((hbody _ x.1 hpl hxl).1 hpx (C2.with []) _ W _ W hkl hsim (some l) (.inr hnrf) 1) ?_
    rintro e a2 W2 ⟨rfl,C3,Ik,Gn,Hb,_⟩;have Hb:=Hb.unbased;obtain ⟨k1,k2⟩:=keepO Hb;have Ic:Sim P (C.with []) Gf.m w (E (pre.map (·.1)) x.1) { a2 with defers:=[] } W2 :=
     ⟨C3,Ik,Gn,(Fq.trans Hb).based [],.nil rfl (dO (hmE _ _)).2⟩
    obtain ⟨C4,_,Mg,Qb,_⟩:=dY hkk (hgh _ _) Ic;refine ⟨k1,k2,⟨C4,?_,?_⟩,fun q l h => ?_⟩
    ·rw [hmapp];exact Mg
    ·rw [hmapp];exact Qb.unbased
    ·rw [hmapp] at h
     rcases List.prefix_concat_iff.1 h with h | h
     ·obtain ⟨e1,e2⟩:=List.append_inj' h rfl
      cases e2;rw [e1];exact hpx
     ·exact hpre q l h
   | true =>
    have hc:=(hbody _ x.1 hpl hxl).2 hpx;refine wpIn_mono (hc (C2.with []) _ W _ W hkl hsim (some l) (.inr hnrf) 1) ?_
    rintro e a2 W2 ⟨rfl,C3,Ik,Gn,Hb,_⟩;have Hb:=Hb.unbased;obtain ⟨k1,k2⟩:=keepO Hb;have Ic:Sim P (C.with []) Gf.m w (ER (pre.map (·.1)) x.1) { a2 with defers:=[] } W2 :=
     ⟨C3,Ik,Gn,(Fq.trans Hb).based [],.nil rfl (dO (hmER _ _)).2⟩
    obtain ⟨C4,_,Mg,Qb,_⟩:=dY hkk (hgR _ _ hpx) Ic;exact ⟨k1,rfl,⟨C4,Mg,Qb.unbased⟩,_,_,hmapp.symm,hpx⟩
  case done =>
   intro D ys W Im hSx hI hDm;obtain ⟨⟨C1,h1,h2⟩,hpre⟩:=hI;rw [hSx] at h1 h2 hpre
   refine ⟨.normal,S xs,Ub hpre,rfl,?_⟩;have hnm:xW (S xs).m:=Nq xs;obtain ⟨C',Fu,f,hSo⟩:=tS hnm (hq xs) hM.Fs h1 h2;refine ⟨C',by rw [hT];exact hSl.le (hM.le f),Fu,hF.trans f,?_⟩
   obtain ⟨⟨l,e1,e2,e3⟩,hR⟩:=hD.fr hM (fun i to ti sz L h=>by have:=hnm.2 _ _ h;cases this) f
   obtain ⟨⟨l',Iz,_,Km⟩,_⟩:=hD;have hll:l=l':=by
    have:=e1.symm.trans Iz;exact (List.map_inj_right (fun x y h=>by simpa [mark] using h)).1 this
   refine ⟨⟨D::l,by rw [e1];rfl,List.nodup_cons.2 ⟨fun hin => ?_,e2⟩,fun D' Kn => ?_⟩,hR⟩
   ·rw [hll] at hin
    have:=(Dz.1 (Km D hin).1).1;omega
   ·rcases gX.1 Kn with rfl | hin
    ·refine ⟨hDm,fM hF.size Im,fun hf => ?_⟩
     rcases hSo _ hf with h | h
     ·omega
     ·exact iO hDm rfl h
    ·exact e3 D' hin
  case stop =>
   rintro D c pre W Im hSp ⟨rfl,⟨C1,h1,h2⟩,q,l0,hql,hpq⟩ hDm;refine wpIn_ret ?_;refine ⟨.ret,⟨T,MR⟩,Uc ⟨q,l0,by rw [hql];exact hSp,hpq⟩,rfl,?_⟩
   obtain ⟨C',Fu,f,hSo⟩:=tS K6 hqR hM.Fs h1 h2;refine ⟨C',hSl.le (hM.le f),Fu,hF.trans f,?_⟩;obtain ⟨⟨l,e1,e2,e3⟩,hR⟩:=hD.fr hM (fun i to ti sz L h=>by have:=K6.2 _ _ h;cases this) f
   obtain ⟨⟨l',Iz,_,Km⟩,_⟩:=hD;have hll:l=l':=by
    have:=e1.symm.trans Iz;exact (List.map_inj_right (fun x y h=>by simpa [mark] using h)).1 this
   refine ⟨⟨D::l,by rw [e1];rfl,List.nodup_cons.2 ⟨fun hin => ?_,e2⟩,fun D' Kn => ?_⟩,hR⟩
   ·rw [hll] at hin
    have:=(Dz.1 (Km D hin).1).1;omega
   ·rcases gX.1 Kn with rfl | hin
    ·refine ⟨hDm,fM hF.size Im,fun hf => ?_⟩
     rcases hSo _ hf with h | h
     ·omega
     ·exact iO hDm rfl h
    ·exact e3 D' hin
 refine ⟨fun hall => ?_,fun hex => ?_⟩
 ·intro C0 M0 w0 a w hk hs ro hro n
  refine wpIn_mono (main (fun e Ah=>e = .normal∧Ah=S xs) (fun _=>⟨rfl,rfl⟩) (fun ⟨q,l,h1,h2⟩=>by rw [hall q l h1] at h2;cases h2) C0 M0 w0 a w hk hs ro hro n) ?_
  rintro e' a' w' ⟨e,Ah,⟨rfl,rfl⟩,h1,h2⟩;exact ⟨h1,h2⟩
 ·intro C0 M0 w0 a w hk hs ro hro n
  refine wpIn_mono (main (fun e Ah=>e = .ret∧Ah=⟨T,MR⟩) (fun hall=>by obtain ⟨q,l,h1,h2⟩:=hex;rw [hall q l h1] at h2;cases h2) (fun _=>⟨rfl,rfl⟩) C0 M0 w0 a w hk hs ro hro n) ?_
  rintro e' a' w' ⟨e,Ah,⟨rfl,rfl⟩,h1,h2⟩;exact ⟨h1,h2⟩
end
end KV
end Go.Proofs
end
section
namespace Go.Proofs
open Go.RowKit
namespace KV
open Tryz
variable {P:Program} {T:TT} {E:Env} {C C0:Cx} {M M0:Mem} {w w0:World}
def bWf(P:Program)(ops:Array Oper)(o:Oper)(st Ah:St):Prop:=∀ (C0:Cx) (M0:Mem) (w0:World) (a:Act) (w:World),Sim P C0 M0 w0 st a w→∀ (ro:Option Nat) (n:Nat) (K:Act→World→Prop) (Q:Exit→Act→World→Prop),
 (∀ a' w',(∃ v,a'=a.put o.dst v)→Sim P C0 M0 w0 Ah a' w'→K a' w')→if Region.wanted o (yielded ops a.tmps) then o.wpIn (Fen ro) n P a w K Q else (∀ f,o.about P w a.eval=some f→(Fen ro).fn f)∧K (a.put o.dst undef) w
theorem bAu(hT:∀ t i,T t=some i→bY P t=some i)(hE:kS P E){ops:List Oper}{o:Oper}{id:Nat}{st Ah:St}{s s':AS}(h:oA P T E ops o id st s=some (Ah,s'))(g:aX s'):bWf P ops.toArray o st Ah:=by
 intro C0 M0 w0 a w hsim ro n K Q hK;obtain ⟨C,hS,hM,hF,hD⟩:=hsim;unfold oA at h
 obtain ⟨go,s1,h1,k1⟩:=aD h;cases go with
 | true =>
  obtain ⟨vs,s2,h2,k2⟩:=aD k1;obtain ⟨e2,rfl⟩:=aE h2;obtain ⟨⟨x,L⟩,s3,h3,k3⟩:=aD k2;obtain ⟨rfl,rfl⟩:=aI k3;have gd:=nZ.good h3 g;rw [lZ hS h1 gd,if_pos rfl];refine ⟨fun f _=>trivial,?_⟩
  rw [Oper.semAt_eq _ _ _ (xM h3)]
  rcases rO h3 with ⟨q,_,_,h4⟩ | ⟨h4,hno⟩
  ·obtain ⟨_,hup⟩:=xN hT hE hS hM hF hD (pX hS _ _ e2) h4 g
   revert hup;generalize (execOp a.eval o).run P w=r;intro hup;cases r with
   | halt x w'=>exact hup.elim
   | ok nx w' =>
    cases nx with
    | value u=>exact hK _ _ ⟨_,rfl⟩ hup
    | skip=>exact hK _ _ ⟨_,rfl⟩ (hup _)
    | enter f us =>
     obtain ⟨rfl,hc⟩:=hup;refine ⟨fun h=>by simp [Fen,Fence.wide] at h,(rN (hc (n-1))).mono ?_⟩
     rintro e Gg ⟨u,rfl,hs⟩;exact hK _ _ ⟨_,rfl⟩ hs
    | _=>exact hup.elim
  ·obtain ⟨_,hup⟩:=aAh hT hE hM (pX hS _ _ e2) h4 g
   have hk:jO st.m (upds st.m L):=pW hno;revert hup;generalize (execOp a.eval o).run P w=r;intro hup;cases r with
   | halt x w'=>exact hup.elim
   | ok nx w' =>
    cases nx with
    | value u =>
     obtain ⟨C',f,m,r⟩:=hup;exact hK _ _ ⟨_,rfl⟩ (mA hS hM hF hD f hk m r)
    | skip =>
     obtain ⟨rfl,C',f,m⟩:=hup;exact hK _ _ ⟨_,rfl⟩ (mA hS hM hF hD f hk m (.any _))
    | enter f us =>
     obtain ⟨rfl,hc⟩:=hup;refine ⟨fun h=>by simp [Fen,Fence.wide] at h,(rN (hc (n-1))).mono ?_⟩
     rintro e Gg ⟨u,rfl,C',f,m,r⟩;exact hK _ _ ⟨_,rfl⟩ (mA hS hM hF hD f hk m r)
    | _=>exact hup.elim
 | false =>
  obtain ⟨rfl,rfl⟩:=aI k1;rw [lZ hS h1 g];simp only [Bool.false_eq_true,if_false];exact ⟨fun f _=>trivial,hK _ _ ⟨_,rfl⟩ (mA hS hM hF hD (Fr.refl ..) .refl hM (.tup [] #[] rfl (fun i h=>by simp at h)))⟩
theorem nX{a:Act}{d:Option Nat}{v:Value}{i:Nat}(h:d≠some i):(a.put d v).tmps.getD i undef=a.tmps.getD i undef:=by
 cases d with
 | none=>rfl
 | some j =>
  have hne:j≠i:=fun e=>h (by rw [e])
  show (a.tmps.setIfInBounds j v).getD i undef=_;simp [Bb,Array.getElem?_setIfInBounds_ne hne]
theorem aFe(hT:∀ t i,T t=some i→bY P t=some i)(hE:kS P E){ops:List Oper}:∀ (l:List Oper) (k:Nat) {st Ah:St} {s s':AS},(∀ j,l[j]? = ops[k+j]?)→aUu P T E ops l st s=some (Ah,s')→aX s' →
  ∀ (C0:Cx) (M0:Mem) (w0:World) (a:Act) (w:World),Sim P C0 M0 w0 st a w→∀ (ro:Option Nat) (n:Nat) (Q:Exit→Act→World→Prop),(∀ a' w',((∀ i,(∀ o∈l,o.dst≠some i)→a'.tmps.getD i undef=a.tmps.getD i undef)∧a'.defers=a.defers)→Sim P C0 M0 w0 Ah a' w'→Q .normal a' w')→wpOpsIn (Fen ro) n P ops.toArray Q ((List.range l.length).map (k + ·)) a w
 | [],k,st,Ah,s,s',_,h,g,C0,M0,w0,a,w,hs,ro,n,Q,hQ=>by
  obtain ⟨rfl,rfl⟩:=aI h;exact hQ _ _ ⟨fun _ _=>rfl,rfl⟩ hs
 | o::l,k,st,Ah,s,s',hl,h,g,C0,M0,w0,a,w,hs,ro,n,Q,hQ=>by
  obtain ⟨st1,s1,h1,k1⟩:=aD h;have h0:ops[k]? = some o:=by simpa using (hl 0).symm
  have ih:=fun a1 w1=>aFe hT hE l (k+1) (fun j=>by have:=hl (j+1);simpa [Nat.add_assoc,Nat.add_comm 1 j] using this) k1 g C0 M0 w0 a1 w1
  have hst:=bAu hT hE h1 (rP.good k1 g) C0 M0 w0 a w hs ro n (wpOpsIn (Fen ro) n P ops.toArray Q ((List.range l.length).map (k+1 + ·))) Q (fun a1 w1 hv Gj=>ih a1 w1 Gj ro n Q fun a' w' hk B1=>hQ a' w' ⟨fun i hi=>by
   obtain ⟨v,rfl⟩:=hv;rw [hk.1 i fun o' C9=>hi o' (Cj _ C9),nX (hi o (jQ ..))],by
   obtain ⟨v,rfl⟩:=hv;rw [hk.2];cases o.dst <;> rfl⟩ B1)
  rw [tK,List.range_succ_eq_map,gY,qK];have hm:(List.range l.length).map ((k + ·) ∘ Nat.succ)=(List.range l.length).map (k+1 + ·):=by
   apply yL;intro x _;simp only [Function.comp];omega
  rw [hm,Nat.add_zero,wpOpsIn_cons];unfold wpOpIn;simp only [List.getElem?_toArray,h0];exact hst
def wrR(c:Code)(i:Nat):Bool:=match c with
 | .region _ ops _=>ops.toList.any fun o=>match o.dst with
  | some j=>Nat.beq j i
  | none=>false
 | _=>true
def dA(P:Program)(k:Nat)(c:Code)(st:St)(e:Ex)(Ah:St):Prop:=∀ (C0:Cx) (M0:Mem) (w0:World) (a:Act) (w:World),M0.length≤k→Sim P C0 M0 w0 st a w→∀ (ro:Option Nat) (n:Nat),c.wpIn (Fen ro) n P (fun e' a' w'=>e'=e.toExit∧Sim P C0 M0 w0 Ah a' w'∧(∀ i,wrR c i=false→a'.tmps.getD i undef=a.tmps.getD i undef)∧a'.defers=a.defers) a w
noncomputable def bFy(c:Code)(st:St):Ask (Ex × St):=match c with
 | .region _ ops false=>do
  let Ah ← aUu Tp tT EO ops.toList ops.toList st
  pure (.normal,Ah)
 | _=>fail
theorem dA.fin{k:Nat}{c:Code}{st Ah:St}{e:Ex}{g:Gh}{o:List OI}{l:List Prop}(h:yM k g (bFy c st (asg o))=some (e,Ah,l,[]))(gd:aX (out l)):dA Tp k c st e Ah:=by
 unfold yM at h
 split at h
 ·rename_i e1 st1 s hr
  split at h
  ·rename_i st2 hg
   simp only [Option.some.injEq,Prod.mk.injEq] at h
   obtain ⟨rfl,rfl,rfl,hs⟩:=h;unfold bFy at hr
   split at hr
   ·rename_i id ops
    obtain ⟨Q4,s1,h1,k1⟩:=aD hr;obtain ⟨he,rfl⟩:=aI k1;cases he;intro C0 M0 w0 a w hk hsm ro n;refine wpIn_region ?_;have:=aFe aEn aEm ops.toList 0 (fun j=>by simp) h1 (fun p hp=>gd p hp) C0 M0 w0 a w hsm ro n (fun e' a' w'=>e'=Ex.normal.toExit∧Sim Tp C0 M0 w0 st2 a' w'∧(∀ i,wrR (.region id ops false) i=false→a'.tmps.getD i undef=a.tmps.getD i undef)∧a'.defers=a.defers) (fun a' w' hkp h'=>⟨rfl,dY hk hg h',fun i hi=>hkp.1 i fun o ho e=>by
     unfold wrR at hi
     have:=List.any_eq_false.1 hi o ho;rw [e] at this
     exact this (Nat.beq_refl i),hkp.2⟩)
    simpa using this
   ·cases hr
  ·cases h
 ·cases h
theorem dA.fi{k:Nat}{c:Code}{st Ah:St}{e:Ex}(g:Gh)(o:List OI){l:List Prop}(gd:aX (out l))(h:yM k g (bFy c st (asg o))=some (e,Ah,l,[]):=by kernel_rfl):dA Tp k c st e Ah:=dA.fin h gd
end KV
end Go.Proofs
end
namespace Go.Proofs
namespace KV
open Tryz
section
variable {u0 u1 u2 u3 u4 u5 x0 x1 x2 x3 x4 x5 u0'0 u1'1 u2'2 u3'3 u4'4 u5'5:Int}{base:Nat}
variable {dl:Int}{sk dc:Lqq}

noncomputable abbrev aCg:Code:=sub (cd Tryz.f134) [1,0,0,0]
theorem bGi:((0:Int) != 0)=false:=by first | decide | simp
theorem bUi{bib y0 y1:Int}(h0:cT dl sk dc)(h1:uni 2 (aB sk)∧(aB sk).length≤1000)(h2:(aM (aB sk) 0).length≤1000)(h3:(0:Int)≤(bO (fun x=>decide (bib=x)) (aM (aB sk) 0)))(h4:(aB sk)[(bO (fun x=>decide (bib=x)) (aM (aB sk) 0)).toNat]? = some [y0,y1])(h5:0≤(bO (fun x=>decide (bib=x)) (aM (aB sk) 0)))(h6:uni 2 (aB sk)):FV Tp 129 [(.p (.agg (dQ dl sk dc))),(pI bib)] base (.tup [(.rp (aF dl (aB sk) (aB dc)) 0),(.p (.agg [(aA y0),(aA y1)])),(pI 0)]) []:=have k1:=fk 2 (kF dl sk dc h0) rfl;have k2:=fk 2 (mT dl (aB sk) (aB dc) h1) rfl;FV.fi func129 [k1.o,bF,.x (.agg (dQ dl (aB sk) (aB dc))),k2.o,.c (pI (bO (fun x=>decide (bib=x)) (aM (aB sk) 0))) [],bF,.x (.sl ((aB sk).length) ((aB sk).flatten.map aA)),.x (.agg [(aA y0),(aA y1)])] (gfz h6 h5 h4 (gr (.sl ((aB sk).length) ((aB sk).flatten.map aA)) (gc (aS h3) (gt (FC Tp 20 [(.own 2),(pI bib)] [(2,(.row 3 ((aM (aB sk) 0).length) ((aM (aB sk) 0).map aA)))] 3 (pI (bO (fun x=>decide (bib=x)) (aM (aB sk) 0))) []) (fv (aBs (aM (aB sk) 0) bib h2)) (gc k2 (gr (.agg (dQ dl (aB sk) (aB dc))) (gt (0+3≤(aF dl (aB sk) (aB dc)).length) (by first | decide | simp) (gc bGi (gc k1 gn)))))))))
theorem bUj(h0:cT dl sk dc)(h1:bV (aB dc)):FV Tp 13 [(.p (.agg (dQ dl sk dc)))] base (.tup [(.p (aH (aV dl (aB dc)))),(pI 0)]) []:=have k1:=fk 1 (kF dl sk dc h0) rfl;have k2:=fk 1 (qV (dl:=dl) (sk:=(aB sk)) (dc:=(aB dc)) h1) rfl;FV.frz (FMM.fi 0 ⟨[],[],[1],[]⟩ func13 [k1.o,bF,k2.o] (gc k2 (gc bGi (gc k1 gn)))) (by kernel_rfl)
def jH(dl:Int)(sk:Lqq)(dc:Lqq)(u0:Int)(u1:Int)(u2:Int)(u3:Int)(u4:Int)(u5:Int):St:=⟨fr 26 [(0,(.rp (aF dl sk dc) 0)),(3,(.ptr 0 0))],[some (.box 84 [(pI u0),(pI u1),(pI u2),(pI u3),(pI u4),(pI u5)])]⟩
theorem bUk(hl0:aG Tp 0 aCg (jH dl sk dc x0 x1 x2 x3 x4 x5) (.exit 0) (jH dl sk dc u0'0 u1'1 u2'2 u3'3 u4'4 u5'5)):FV Tp 134 [(.rp (aF dl sk dc) 0),(.p (dcE x0 x1 x2 x3 x4 x5))] base (pI u3'3) []:=FV.fi func134 [hl0.k 4 (gI [1,2,4,20] [0])] (gc hl0.code gn)
theorem bUl(hl0:aG Tp 0 aCg (jH dl sk dc x0 x1 x2 x3 x4 x5) .ret (cQ (jH dl sk dc u0'0 u1'1 u2'2 u3'3 u4'4 u5'5) [(4,(pI 0))])):FV Tp 134 [(.rp (aF dl sk dc) 0),(.p (dcE x0 x1 x2 x3 x4 x5))] base (pI 0) []:=FV.fi func134 [hl0.k 4 (gI [1,2,4,20] [0])] (gc hl0.code gn)
section
variable(h0:(decide (u1≤4))=false)(h1:bQ .i64 (atF dc.reverse) (.int .i64 u5))
include h0 h1
theorem bBe{Aa Ab Ac Ad Ae Af:Int}(h2:(cW (atF dc.reverse) (.int .i64 u5))=true)(h3:eP (atF dc.reverse) (.int .i64 u5)=some (dcE Aa Ab Ac Ad Ae Af)):aC Tp 0 aCg (jH dl sk dc u0 u1 u2 u3 u4 u5) .normal (jH dl sk dc Aa Ab Ac Ad Ae Af):=have k1:=fk 1 (dU u1) rfl;aC.fi (gI [1,2,4,20] [0]) [k1.o,bT,.x (.mp (atF dc.reverse)),bT,.x (dcE Aa Ab Ac Ad Ae Af)] (gc h3 (gc h2 (gc h1 (gr (.mp (atF dc.reverse)) (gc (cE h0) (gc k1 gn))))))
theorem aFi(h2:(cW (atF dc.reverse) (.int .i64 u5))=false):aC Tp 0 aCg (jH dl sk dc u0 u1 u2 u3 u4 u5) .ret (cQ (jH dl sk dc u0 u1 u2 u3 u4 u5) [(4,(pI 0))]):=have k1:=fk 1 (dU u1) rfl;aC.fi (gI [1,2,5,19] [0]) [k1.o,bT,.x (.mp (atF dc.reverse)),bF] (gc h2 (gc h1 (gr (.mp (atF dc.reverse)) (gc (cE h0) (gc k1 gn)))))
end
theorem aFj(h0:(decide (u1≤4))=true):aC Tp 0 aCg (jH dl sk dc u0 u1 u2 u3 u4 u5) (.exit 0) (jH dl sk dc u0 u1 u2 u3 u4 u5):=have k1:=fk 1 (dU u1) rfl;aC.fi (gI [1,2,4,20] [0]) [k1.o,bF] (gc (aW h0) (gc k1 gn))
end
section
def bGe(sk:Lqq)(bib:Int):Int:=bO (fun x=>decide (bib=x)) (aM sk 0)
theorem bUg{dl:Int}{sk dc:Lqq}(h:cT dl sk dc):uni 2 (aB sk)∧(aB sk).length≤1000∧(aM (aB sk) 0).length≤1000:=by
 have:=h.len;refine ⟨lF h.us,by rw [fV];omega,by rw [rV,fV];omega⟩
theorem bGf{dl:Int}{sk dc:Lqq}(h:cT dl sk dc){bib:Int}{i:Nat}{s0 s1:Int}(hp:bGe (aB sk) bib=(i:Int))(hs:(aB sk)[i]? = some [s0,s1]){base:Nat}:FV Tp 129 [.p (.agg (dQ dl sk dc)),.p (aA bib)] base (.tup [qY dl (aB sk) (aB dc),.p (.agg [aA s0,aA s1]),.p (aA 0)]) []:=by
 obtain ⟨h1,h2,h3⟩:=bUg h;have He:bO (fun x=>decide (bib=x)) (aM (aB sk) 0)=(i:Int):=hp
 exact bUi h ⟨h1,h2⟩ h3 (by rw [He];omega) (by rw [He];simpa using hs) (by rw [He];omega) h1
theorem bGg{dl:Int}{sk dc:Lqq}(h:cT dl sk dc){base:Nat}:FV Tp 13 [.p (.agg (dQ dl sk dc))] base (.tup [.p (aH (aV dl (aB dc))),.p (aA 0)]) []:=bUj h (kL h)
theorem aTa{q:Lqq}(hq:(q.map dN).Nodup):atF q=q.map fun x=>(.int .i64 (dN x),sE x):=by
 have key:∀ (q p:Lqq),((p++q).map dN).Nodup→q.foldl jY (p.map fun x=>(.int .i64 (dN x),sE x))=(p++q).map fun x=>(.int .i64 (dN x),sE x):=by
  intro q
  induction q with
  | nil=>intro p _;simp
  | cons x q ih =>
   intro p h;rw [tN];have hn:cW (p.map fun x=>((.int .i64 (dN x),sE x):Value × PV)) (.int .i64 (dN x))=false:=by
    unfold cW;rw [List.any_eq_false];intro e he;obtain ⟨y,hy,rfl⟩:=dS.1 he;rw [fL,List.nodup_append] at h
    have:=h.2.2 (dN y) (dS.2 ⟨y,hy,rfl⟩) (dN x) (by simp)
    simpa [gW] using this
   have hst:jY (p.map fun x=>((.int .i64 (dN x),sE x):Value × PV)) x=(p.map fun x=>((.int .i64 (dN x),sE x):Value × PV))++[(.int .i64 (dN x),sE x)]:=by
    unfold jY;rw [hn,if_neg (by simp)]
   rw [hst];have e:(p.map fun x=>((.int .i64 (dN x),sE x):Value × PV))++[(.int .i64 (dN x),sE x)]=(p++[x]).map fun x=>((.int .i64 (dN x),sE x):Value × PV):=by simp
   have e2:p++x::q=(p++[x])++q:=by simp
   rw [e,ih (p++[x]) (by rw [← e2];exact h),e2]
 exact key q [] (by simpa using hq)
theorem aLp{dc:Lqq}(h:bV dc):(dc.reverse.map dN).Nodup:=by
 rw [List.map_reverse,List.Nodup,List.pairwise_reverse,List.pairwise_map];exact h.up.imp fun h=>by omega
theorem vO{dc:Lqq}(h:bV dc){n:Int}(hn:inR n):bQ .i64 (atF dc.reverse) (.int .i64 n):=by
 have ha:wQ (atF dc.reverse):=bEd fun x hx=>by have:=eV h (aBb.1 hx);omega
 refine ⟨ha.ky,?_,ha.nd⟩;show (decide (IntKind.i64=IntKind.i64) && (Lit.int .i64 n).wf)=true;have:(Lit.int .i64 n).wf=true:=by
  have e1:IntKind.i64.min = -9223372036854775808:=rfl;have e2:IntKind.i64.max=9223372036854775807:=rfl;unfold inR at hn
  show (decide _ && decide _)=true;rw [Bl,decide_eq_true_eq,decide_eq_true_eq,e1,e2];omega
 rw [this];rfl
theorem aQl{dc:Lqq}(h:bV dc){x:List Int}(hx:x∈dc):cW (atF dc.reverse) (.int .i64 (dN x))=true∧eP (atF dc.reverse) (.int .i64 (dN x))=some (sE x):=by
 rw [aTa (aLp h)];have hf:dc.reverse.find? (fun y=>decide (dN y=dN x))=some x:=by
  cases hf:dc.reverse.find? (fun y=>decide (dN y=dN x)) with
  | none =>
   have:=aGo.1 hf x (aBb.2 hx);simp at this
  | some y =>
   have h1:=wG hf;have h2:dN y=dN x:=by simpa using aVd hf
   rw [zA h (aBb.1 h1) hx h2]
 constructor
 ·unfold cW
  rw [List.any_map];exact List.any_eq_true.2 ⟨x,aBb.2 hx,by simp [gW]⟩
 ·unfold eP
  rw [List.find?_map];have e:(fun e:Value × PV=>decide (gW e.1=gW (Value.int IntKind.i64 (dN x)))) ∘ (fun x:List Int=>((Value.int .i64 (dN x),sE x):Value × PV))=fun y=>decide (dN y=dN x):=rfl
  rw [e,hf];rfl
theorem aTb{dc:Lqq}(h:bV dc){n:Int}(hn:∀ x∈dc,dN x≠n):cW (atF dc.reverse) (.int .i64 n)=false:=by
 rw [aTa (aLp h)];unfold cW;rw [List.any_map,List.any_eq_false];intro x hx;have:=hn x (aBb.1 hx);show ¬ (decide (dN x=n))=true;simpa using this
def ofN(dc:Lqq)(n:Int):Option (List Int):=dc.find? fun x=>dN x == n
theorem vP{dc:Lqq}{n:Int}{x:List Int}(h:ofN dc n=some x):x∈dc∧dN x=n:=⟨wG h,by simpa using aVd h⟩
theorem aLq{dc:Lqq}{n:Int}(h:ofN dc n=none):∀ x∈dc,dN x≠n:=fun x hx=>by simpa using aGo.1 h x hx
theorem aTc{dc:Lqq}(hd:bV dc){x:List Int}(hx:x∈dc):ofN dc (dN x)=some x:=by
 cases h:ofN dc (dN x) with
 | none=>exact absurd rfl (aLq h x hx)
 | some y=>obtain ⟨h1,h2⟩:=vP h;rw [zA hd h1 hx h2]
def sQ(dc:Lqq):Nat→List Int→Int
 | 0,_=>0
 | k+1,x=>if dK x≤4 then dB x else match ofN dc (dAb x) with
  | some y=>sQ dc k y
  | none=>0
def vQ(dc:Lqq)(x:List Int):Int:=sQ dc (10000+1) x
theorem bUh{dl:Int}{sk dc:Lqq}(hd:bV dc):∀ (k:Nat) (a b c d e f:Int),inR f→([a,b,c,d,e,f]∈dc∨b≤4∨∀ y∈dc,dN y≠f)→a<(k:Int) →
  (∃ a' b' c' d' e' f',sQ dc (k+1) [a,b,c,d,e,f]=d'∧aG Tp 0 (sub (cd Tryz.f134) [1,0,0,0]) (jH dl sk dc a b c d e f) (.exit 0) (jH dl sk dc a' b' c' d' e' f')) ∨
  (sQ dc (k+1) [a,b,c,d,e,f]=0∧∃ a' b' c' d' e' f',aG Tp 0 (sub (cd Tryz.f134) [1,0,0,0]) (jH dl sk dc a b c d e f) .ret (cQ (jH dl sk dc a' b' c' d' e' f') [(4,.p (aA 0))])):=by
 intro k
 induction k with
 | zero =>
  intro a b c d e f hf hm hk
  by_cases h4:b≤4
  ·refine .inl ⟨a,b,c,d,e,f,?_,.exit (aFj (decide_eq_true h4)) (by simp)⟩
   unfold sQ;rw [if_pos (show dK [a,b,c,d,e,f]≤4 from h4)];rfl
  ·rcases hm with hm | hm | hm
   ·have:1≤a:=(eV hd hm).1
    omega
   ·exact absurd hm h4
   ·refine .inr ⟨?_,a,b,c,d,e,f,.exit (aFi (decide_eq_false h4) (vO hd hf) (aTb hd hm)) (by simp)⟩
    unfold sQ;rw [if_neg (show ¬ dK [a,b,c,d,e,f]≤4 from h4)]
    have:ofN dc (dAb [a,b,c,d,e,f])=none:=by
     cases h:ofN dc (dAb [a,b,c,d,e,f]) with
     | none=>rfl
     | some y=>exact absurd (vP h).2 (hm y (vP h).1)
    rw [this]
 | succ k ih =>
  intro a b c d e f hf hm hk
  by_cases h4:b≤4
  ·refine .inl ⟨a,b,c,d,e,f,?_,.exit (aFj (decide_eq_true h4)) (by simp)⟩
   unfold sQ;rw [if_pos (show dK [a,b,c,d,e,f]≤4 from h4)];rfl
  ·have hu:sQ dc (k+1+1) [a,b,c,d,e,f]=match ofN dc (dAb [a,b,c,d,e,f]) with | some y=>sQ dc (k+1) y | none=>0:=by
    conv=>lhs;unfold sQ
    rw [if_neg (show ¬ dK [a,b,c,d,e,f]≤4 from h4)]
   rw [hu];cases h:ofN dc (dAb [a,b,c,d,e,f]) with
   | none=>exact .inr ⟨rfl,a,b,c,d,e,f,.exit (aFi (decide_eq_false h4) (vO hd hf) (aTb hd (aLq h))) (by simp)⟩
   | some y =>
    obtain ⟨h1,h2⟩:=vP h
    rcases hm with hm | hm | hm
    ·obtain ⟨h3,h5⟩:=aQl hd h1
     rw [h2] at h3 h5
     have ho:=hd.ord _ hm;unfold orB at ho
     rw [if_neg (show ¬ [a,b,c,d,e,f].getD 1 0≤4 from h4)] at ho
     have Jj:=bB.1 ho;have ho3:f≤a-1:=Jj.2;obtain ⟨y0,y1,y2,y3,y4,y5,rfl⟩:=A8 (hd.ud y h1);have Et:y0=f:=h2;have Ri:=lE hd _ h1;have hst:=bBe (dl:=dl) (sk:=sk) (dc:=dc) (u0:=a) (u1:=b) (u2:=c) (u3:=d) (u4:=e) (u5:=f) (decide_eq_false h4) (vO hd hf) h3 h5
     rcases ih y0 y1 y2 y3 y4 y5 (by have q1:0≤y5:=Ri.1;have q2:y5≤9998:=Ri.2;unfold inR;omega) (.inl h1) (by omega) with ⟨a',b',c',d',e',f',q1,q2⟩ | ⟨q1,a',b',c',d',e',f',q2⟩
     ·exact .inl ⟨a',b',c',d',e',f',q1,.step hst q2⟩
     ·exact .inr ⟨q1,a',b',c',d',e',f',.step hst q2⟩
    ·exact absurd hm h4
    ·exact absurd h2 (hm y h1)
theorem bGh{dl:Int}{sk dc:Lqq}(hd:bV dc){a b c d e f:Int}(hf:inR f)(hm:[a,b,c,d,e,f]∈dc∨b≤4∨∀ y∈dc,dN y≠f)(ha:a≤9999){base:Nat}:FV Tp 134 [qY dl sk dc,.p (.agg [aA a,aA b,aA c,aA d,aA e,aA f])] base (.p (aA (vQ dc [a,b,c,d,e,f]))) []:=by
 unfold vQ
 rcases bUh (dl:=dl) (sk:=sk) hd 10000 a b c d e f hf hm (by omega) with ⟨a',b',c',d',e',f',q1,q2⟩ | ⟨q1,a',b',c',d',e',f',q2⟩
 ·rw [q1];exact bUk q2
 ·rw [q1];exact bUl q2
end
section
variable {r0 En:Bool}{n102 Ag C8 Aa Ab A3 Aj A6 A7 A9 Bf:Int}{t t' C7 T104:Lqb}{L p L' Be Ep:Lqq}{l q u:List Int}{i j i' j' Av base:Nat}{ov:PV}
variable {dl:Int}{sk dc:Lqq}

noncomputable abbrev aCe:Code:=sub (cd Tryz.f53) [1,1,1,1,0,1,0,0]
noncomputable abbrev aIb:Code:=sub (cd Tryz.f53) [1,1,0,1,0,0]
noncomputable abbrev xA:Code:=sub (cd Tryz.f163) [1,0,1,0,0]
noncomputable abbrev aIc:Code:=pS (cd Tryz.f16) 5 [0,1,0,0]
theorem bGd:((0:Int) != 0)=false:=by first | decide | simp
theorem aCf{cs:List PV}{a b:Nat}{v x:PV}(hn:a≠b)(h:cs[b]? = some x):(cs.set a v)[b]? = some x:=by rw [bHr hn];exact h
def ocB(q:List Int)(n:Int):Bool:=q.contains n
abbrev bTy(dl:Int)(sk dc:Lqq)(ov:PV)(R:Lqq)(T T2:Lqb):Prop:=FMM Tp 53 [qY dl sk dc,bRx] (oW dl sk dc ov T) (.own 7) (oW dl sk dc ov T2++[some (.row 63 R.length (R.flatten.map aA))])
def nE(dl:Int)(sk:Lqq)(dc:Lqq)(ov:PV)(pn:Nat)(pc:List PV)(qn:Nat)(qc:List PV)(i:Nat)(te:List (Value × PV))(tk:Nat):St:=⟨fr 87 [(0,(.rp (aF dl sk dc) 0)),(3,(.ptr 7 0)),(4,(.p dZ)),(5,(.own 8)),(6,(.own 9)),(16,(.p (fS sk))),(17,(pI (sk.length:Int))),(18,(pI (i:Int)))],[some (.box 106 [(.rp (aF dl sk dc) 0)]),some (.box 31 [(.p ov)]),some (.box 119 [(.fn 100 [] [(.ptr 4 0),(.ptr 5 0),(.ptr 0 0),(.ptr 2 0)]),(.fn 102 [] [(.ptr 6 0)]),(.fn 103 [] [(.ptr 2 0),(.ptr 1 0)]),(.fn 106 [] [(.ptr 2 0)]),(.fn 104 [] [(.ptr 6 0)])]),some (.mp te tk),some (.box 183 [(.mp 3)]),some (.box 115 [(.fn 98 [(.rp (aF dl sk dc) 0)] [])]),some (.box 185 [(.fn 99 [] [(.ptr 0 0),(.ptr 2 0)])]),some (.box 119 [(.fn 100 [] [(.ptr 4 0),(.ptr 5 0),(.ptr 0 0),(.ptr 2 0)]),(.fn 102 [] [(.ptr 6 0)]),(.fn 103 [] [(.ptr 2 0),(.ptr 1 0)]),(.fn 106 [] [(.ptr 2 0)]),(.fn 104 [] [(.ptr 6 0)])]),some (.row 63 pn pc),some (.row 63 qn qc)]⟩
def jG(dl:Int)(sk:Lqq)(dc:Lqq)(ov:PV)(Be:Lqq)(Ep:Lqq)(C7:Lqb)(Ln:Nat)(Lc:List PV)(j:Nat):St:=⟨fr 87 [(4,(.p dZ)),(5,(.own 7)),(6,(.own 8)),(47,(pI ((isort (ltK 2) Be).length:Int))),(48,(pI (j:Int)))],[some (.box 106 [(.rp (aF dl sk dc) 0)]),some (.box 31 [(.p ov)]),some (.box 119 [(.fn 100 [] [(.ptr 4 0),(.ptr 5 0),(.ptr 0 0),(.ptr 2 0)]),(.fn 102 [] [(.ptr 6 0)]),(.fn 103 [] [(.ptr 2 0),(.ptr 1 0)]),(.fn 106 [] [(.ptr 2 0)]),(.fn 104 [] [(.ptr 6 0)])]),some (.mp (aK C7) C7.length),some (.box 183 [(.mp 3)]),some (.box 115 [(.fn 98 [(.rp (aF dl sk dc) 0)] [])]),some (.box 185 [(.fn 99 [] [(.ptr 0 0),(.ptr 2 0)])]),some (.row 63 Ln Lc),some (.row 63 Ep.length (Ep.flatten.map aA))]⟩
theorem bTz{T:Lqb}{B0:Nat}{L'4:Lqq}{Ue Lo:Nat}{Dw:List PV}(hl0:aG Tp 7 aIb (nE dl sk dc ov 0 [] 0 [] 0 (aK T) T.length) (.exit 0) (nE dl sk dc ov Be.length (Be.flatten.map aA) Ep.length (Ep.flatten.map aA) B0 (aK C7) C7.length))(h1:uni 3 Be)(h2:Be.length<20)(Cd:aG Tp 7 aCe (jG dl sk dc ov Be Ep C7 ((isort (ltK 2) Be).length) ((isort (ltK 2) Be).flatten.map aA) 0) (.exit 2) (jG dl sk dc ov Be Ep C7 L'4.length (L'4.flatten.map aA) Ue))(h4:(Ep.flatten.map aA).length=Ep.length*3∧L'4.length+Ep.length≤1000000)(Kz:Lo=(L'4.length+Ep.length))(Di:Dw=((L'4.flatten.map aA)++(Ep.flatten.map aA))):FMM Tp 53 [(.rp (aF dl sk dc) 0),(.agg [(.fn 100 [] [(.ptr 4 0),(.ptr 5 0),(.ptr 0 0),(.ptr 2 0)]),(.fn 102 [] [(.ptr 6 0)]),(.fn 103 [] [(.ptr 2 0),(.ptr 1 0)]),(.fn 106 [] [(.ptr 2 0)]),(.fn 104 [] [(.ptr 6 0)])])] [some (.box 106 [(.rp (aF dl sk dc) 0)]),some (.box 31 [(.p ov)]),some (.box 119 [(.fn 100 [] [(.ptr 4 0),(.ptr 5 0),(.ptr 0 0),(.ptr 2 0)]),(.fn 102 [] [(.ptr 6 0)]),(.fn 103 [] [(.ptr 2 0),(.ptr 1 0)]),(.fn 106 [] [(.ptr 2 0)]),(.fn 104 [] [(.ptr 6 0)])]),some (.mp (aK T) T.length),some (.box 183 [(.mp 3)]),some (.box 115 [(.fn 98 [(.rp (aF dl sk dc) 0)] [])]),some (.box 185 [(.fn 99 [] [(.ptr 0 0),(.ptr 2 0)])])] (.own 7) [some (.box 106 [(.rp (aF dl sk dc) 0)]),some (.box 31 [(.p ov)]),some (.box 119 [(.fn 100 [] [(.ptr 4 0),(.ptr 5 0),(.ptr 0 0),(.ptr 2 0)]),(.fn 102 [] [(.ptr 6 0)]),(.fn 103 [] [(.ptr 2 0),(.ptr 1 0)]),(.fn 106 [] [(.ptr 2 0)]),(.fn 104 [] [(.ptr 6 0)])]),some (.mp (aK C7) C7.length),some (.box 183 [(.mp 3)]),some (.box 115 [(.fn 98 [(.rp (aF dl sk dc) 0)] [])]),some (.box 185 [(.fn 99 [] [(.ptr 0 0),(.ptr 2 0)])]),some (.row 63 Lo Dw)]:=by
 subst Kz Di;have k1:=mq [8] 10 (bOy Be h1 h2);exact FMM.fi 7 ⟨[],[9],[],[]⟩ func53 [.x (fS sk),hl0.k 1 (gN ar [7,8,9] [(5,63),(6,63)]),k1.o,Cd.k 4 (gI bv [8,9])] (gc h4 (gc Cd.code (gc k1 (gc hl0.code (gr (fS sk) gn)))))
section
variable(h0:(i:Int)<(sk.length:Int))(h1:sk[i]? = some [Aa,Ab])(h2:uni 2 sk)(h3:aDg dl sk dc ov [Aa,Ab] n102 En t T104)
include h0 h1 h2 h3
theorem bAv{q q':Lqq}(h4:En=true)(h5:[(aA Aa),(aA (-1)),(aA 0)].length=1*3∧q.length+1≤1000000)(h6:co i)(Qd:q'.length=(q.length+1))(Qe:q'.flatten.map aA=((q.flatten.map aA)++[(aA Aa),(aA (-1)),(aA 0)]))(Ak:i'=(i+1))(Ao:aK t'=(aK T104))(Ap:t'.length=T104.length):aC Tp 7 aIb (nE dl sk dc ov p.length (p.flatten.map aA) q.length (q.flatten.map aA) i (aK t) t.length) .normal (nE dl sk dc ov p.length (p.flatten.map aA) q'.length (q'.flatten.map aA) i' (aK t') t'.length):=by
 subst Ak;have k1:=mq bz 11 h3;rw [Qd,Qe,Ao,Ap];exact aC.fi (gI ar [7,8,12]) [bT,.x (.agg [(aA Aa),(aA Ab)]),k1.o,bT] (gc h6 (gc h5 (gt ([(aA Aa),(aA (-1)),(aA 0)].length=3) (by first | decide | simp) (gc h4 (gc k1 (gfl h2 h1 (g0 h0)))))))
theorem bAw{q p':Lqq}(h4:En=false)(h5:[(aA Aa),(aA 0),(aA n102)].length=1*3∧p.length+1≤1000000)(h6:co i)(Ke:p'.length=(p.length+1))(Kf:p'.flatten.map aA=((p.flatten.map aA)++[(aA Aa),(aA 0),(aA n102)]))(Ak:i'=(i+1))(Ao:aK t'=(aK T104))(Ap:t'.length=T104.length):aC Tp 7 aIb (nE dl sk dc ov p.length (p.flatten.map aA) q.length (q.flatten.map aA) i (aK t) t.length) .normal (nE dl sk dc ov p'.length (p'.flatten.map aA) q.length (q.flatten.map aA) i' (aK t') t'.length):=by
 subst Ak;have k1:=mq bz 11 h3;rw [Ke,Kf,Ao,Ap];exact aC.fi (gI ar [7,12,9]) [bT,.x (.agg [(aA Aa),(aA Ab)]),k1.o,bF] (gc h6 (gc h5 (gt ([(aA Aa),(aA 0),(aA n102)].length=3) (by first | decide | simp) (gc h4 (gc k1 (gfl h2 h1 (g0 h0)))))))
end
theorem bAx{q:Lqq}(h0:(sk.length:Int)≤(i:Int)):aC Tp 7 aIb (nE dl sk dc ov p.length (p.flatten.map aA) q.length (q.flatten.map aA) i (aK t) t.length) (.exit 0) (nE dl sk dc ov p.length (p.flatten.map aA) q.length (q.flatten.map aA) i (aK t) t.length):=aC.fi (gI ar [7,8,9]) [bF] (gc (aS h0) gn)
section
variable(h0:(j:Int)<((isort (ltK 2) Be).length:Int))(h1:inR (((j+1):Nat):Int))(h2:L[j]? = some [A3,Aj,A6])(h3:((j*3)+1)<(L.flatten.map aA).length)
include h0 h1 h2 h3
theorem bAy(h4:(0:Int)<(j:Int))(h5:uni 3 L)(h6:inR ((j:Int)-1))(h7:L[((j:Int)-1).toNat]? = some [A7,A9,Bf])(h8:0≤((j:Int)-1))(h9:A6=Bf)(A5:((j*3)+1)<((L.flatten.map aA).set ((j*3)+1) (aA (((j+1):Nat):Int))).length)(Gl:L'.length=L.length)(Gm:L'.flatten.map aA=(((L.flatten.map aA).set ((j*3)+1) (aA (((j+1):Nat):Int))).set ((j*3)+1) (aA A9)))(D7:j'=(j+1)):aC Tp 7 aCe (jG dl sk dc ov Be Ep C7 L.length (L.flatten.map aA) j) .normal (jG dl sk dc ov Be Ep C7 L'.length (L'.flatten.map aA) j'):=by
 subst D7;rw [Gl,Gm];exact aC.fi (gI bv [7,8]) (rT 6++[.x (aA A6)]++rT 6++[.x (aA Bf),bT,bT,bT,.x (aA A9)]) (gc h1 (gc A5 (gc (cF (i:=(j:Int)) (B4 _) h2) (gt (((L.flatten.map aA).set ((j*3)+1) (aA (((j+1):Nat):Int)))[((((j:Int)-1).toNat*3)+1)]? = some (aA A9)) (aCf (by omega) (cZ (i:=((j:Int)-1).toNat) (f:=1) h5 h7 rfl)) (gc (cF (i:=((j:Int)-1)) h8 h7) (gc h6 (gc (eJ h9) (Bn (bU h4) (gt (((L.flatten.map aA).set ((j*3)+1) (aA (((j+1):Nat):Int)))[((((j:Int)-1).toNat*3)+2)]? = some (aA Bf)) (aCf (by omega) (cZ (i:=((j:Int)-1).toNat) (f:=2) h5 h7 rfl)) (Bn (bU h4) (gc (cF (i:=((j:Int)-1)) h8 h7) (gc (bU h4) (gc h6 (Aw (bU h4) (gt (((L.flatten.map aA).set ((j*3)+1) (aA (((j+1):Nat):Int)))[((j*3)+2)]? = some (aA A6)) (aCf (by omega) (cZ (i:=j) (f:=2) h5 h2 rfl)) (Bn (bU h4) (gc (cF (i:=(j:Int)) (B4 _) h2) (Aw (bU h4) (gc h3 (gc (cF (i:=(j:Int)) (B4 _) h2) (gc h1 (g0 h0))))))))))))))))))))))
theorem bAz(h4:(0:Int)<(j:Int))(h5:uni 3 L)(h6:inR ((j:Int)-1))(h7:L[((j:Int)-1).toNat]? = some [A7,A9,Bf])(h8:0≤((j:Int)-1))(h9:A6≠Bf)(Gl:L'.length=L.length)(Gm:L'.flatten.map aA=((L.flatten.map aA).set ((j*3)+1) (aA (((j+1):Nat):Int))))(D7:j'=(j+1)):aC Tp 7 aCe (jG dl sk dc ov Be Ep C7 L.length (L.flatten.map aA) j) .normal (jG dl sk dc ov Be Ep C7 L'.length (L'.flatten.map aA) j'):=by
 subst D7;rw [Gl,Gm];exact aC.fi (gI bv [7,8]) (rT 6++[.x (aA A6)]++rT 6++[.x (aA Bf),bT,bT,bF]) (gc h1 (gc (bI h9) (Bn (bU h4) (gt (((L.flatten.map aA).set ((j*3)+1) (aA (((j+1):Nat):Int)))[((((j:Int)-1).toNat*3)+2)]? = some (aA Bf)) (aCf (by omega) (cZ (i:=((j:Int)-1).toNat) (f:=2) h5 h7 rfl)) (Bn (bU h4) (gc (cF (i:=((j:Int)-1)) h8 h7) (gc (bU h4) (gc h6 (Aw (bU h4) (gt (((L.flatten.map aA).set ((j*3)+1) (aA (((j+1):Nat):Int)))[((j*3)+2)]? = some (aA A6)) (aCf (by omega) (cZ (i:=j) (f:=2) h5 h2 rfl)) (Bn (bU h4) (gc (cF (i:=(j:Int)) (B4 _) h2) (Aw (bU h4) (gc h3 (gc (cF (i:=(j:Int)) (B4 _) h2) (gc h1 (g0 h0)))))))))))))))))
theorem bBa(h4:(j:Int)≤0)(Gl:L'.length=L.length)(Gm:L'.flatten.map aA=((L.flatten.map aA).set ((j*3)+1) (aA (((j+1):Nat):Int))))(D7:j'=(j+1)):aC Tp 7 aCe (jG dl sk dc ov Be Ep C7 L.length (L.flatten.map aA) j) .normal (jG dl sk dc ov Be Ep C7 L'.length (L'.flatten.map aA) j'):=by
 subst D7;rw [Gl,Gm];exact aC.fi (gI bv [7,8]) ([bT]++rF 13) (gc h1 (J8 (aS h4) (Dp (aS h4) (gc h3 (gc (cF (i:=(j:Int)) (B4 _) h2) (gc h1 (g0 h0)))))))
end
theorem bBb(h0:((isort (ltK 2) Be).length:Int)≤(j:Int)):aC Tp 7 aCe (jG dl sk dc ov Be Ep C7 L.length (L.flatten.map aA) j) (.exit 2) (jG dl sk dc ov Be Ep C7 L.length (L.flatten.map aA) j):=aC.fi (gI bv [7,8]) [bF] (gc (aS h0) gn)
theorem bUa{dl:Int}{sk dc R0:Lqq}{T1:Lqb}(h0:cT dl sk dc)(h1:bTy dl (aB sk) (aB dc) dZ R0 ([]:Lqb) T1):FV Tp 25 [(.p (.agg (dQ dl sk dc)))] base (.tup [(.own base),(pI 0)]) [(base,(.row 63 R0.length (R0.flatten.map aA)))]:=have k1:=fk 1 (kF dl sk dc h0) rfl;have k2:=mN [] 1 (aHq (dl:=dl) (sk:=(aB sk)) (dc:=(aB dc)));have k3:=mq [1,2,3,4,5,6,7] 8 h1;FV.fi func25 [k1.o,bF,k2.o,k3.o] (gc k3 (gc k2 (gc bGd (gc k1 gn))))
theorem bUb{n:Int}(h0:q.length≤1000)(An:r0=(q.contains n)):FV Tp 52 [(pI n),(.rp [(aH q)] 0)] base (pB r0) []:=by
 subst An;have k1:=fk 0 (oS q n h0) rfl;exact FV.fi func52 [.x (aH q),k1.o] (gc k1 (gr (aH q) gn))
theorem bUc(n:Int)(q:List Int)(hq:q.length≤1000){base:Nat}:FV Tp 52 [.p (aA n),.rp [aH q] 0] base (pB (ocB q n)) []:=bUb hq rfl
theorem bMa{x:Int}(h0:q.length≤1000)(An:r0=(!(ocB q x))):FMM Tp 94 [(pI x),(.ptr 0 0)] [some (.box 44 [(.fn 52 [] [(.rp [(aH q)] 0)])])] (pB r0) [some (.box 44 [(.fn 52 [] [(.rp [(aH q)] 0)])])]:=by
 subst An;exact FMM.fi 1 gE func94 [.c (pB (ocB q x)) []] (gc (fk 1 (bUc x q h0) rfl) gn)
theorem aSz(x:Int)(q:List Int)(he:q.length≤1000):FMM Tp 94 [(pI x),.ptr 0 0] [some (.box 44 [(.fn 52 [] [(.rp [(aH q)] 0)])])] (pB (!(ocB q x))) [some (.box 44 [(.fn 52 [] [(.rp [(aH q)] 0)])])]:=bMa he rfl
def gF(l:List Int)(q:List Int)(i:Nat):St:=⟨fr 19 [(0,(.p (aH l))),(1,(.fn 94 [] [(.ptr 0 0)])),(7,(pI (l.length:Int))),(8,(pI (i:Int)))],[some (.box 44 [(.fn 52 [] [(.rp [(aH q)] 0)])])]⟩
theorem bMb(hl0:aG Tp 1 xA (gF l q 0) (.exit 0) (gF l q Av)):FMM Tp 163 [(.p (aH l)),(.fn 94 [] [(.ptr 0 0)])] [some (.box 44 [(.fn 52 [] [(.rp [(aH q)] 0)])])] (pI (-1)) [some (.box 44 [(.fn 52 [] [(.rp [(aH q)] 0)])])]:=FMM.fi 1 gE func163 [hl0.k 6 (gZ cj)] (gc hl0.code gn)
theorem bMc(hl0:aG Tp 1 xA (gF l q 0) .ret (cQ (gF l q Av) [(4,(pI (Av:Int)))])):FMM Tp 163 [(.p (aH l)),(.fn 94 [] [(.ptr 0 0)])] [some (.box 44 [(.fn 52 [] [(.rp [(aH q)] 0)])])] (pI (Av:Int)) [some (.box 44 [(.fn 52 [] [(.rp [(aH q)] 0)])])]:=FMM.fi 1 gE func163 [hl0.k 6 (gZ cj)] (gc hl0.code gn)
section
variable(h0:(i:Int)<(l.length:Int))(h1:l[i]? = some Ag)(h2:q.length≤1000)
include h0 h1 h2
theorem aQi(h3:(ocB q Ag)=false):aC Tp 1 xA (gF l q i) .ret (cQ (gF l q i) [(4,(pI (i:Int)))]):=have k1:=mq [0] 1 (aSz Ag q h2);aC.fi (gZ c8) [bT,.x (aA Ag),k1.o,bT] (gc (cE h3) (gc k1 (gc (atm aA h1) (gc (ixn aA h1) (g0 h0)))))
theorem aQj(h3:(ocB q Ag)=true)(h4:co i)(Ak:i'=(i+1)):aC Tp 1 xA (gF l q i) .normal (gF l q i'):=by
 subst Ak;have k1:=mq [0] 1 (aSz Ag q h2);exact aC.fi (gZ cj) [bT,.x (aA Ag),k1.o,bF] (gc h4 (gc (aW h3) (gc k1 (gc (atm aA h1) (gc (ixn aA h1) (g0 h0))))))
end
theorem aQk(h0:(l.length:Int)≤(i:Int)):aC Tp 1 xA (gF l q i) (.exit 0) (gF l q i):=aC.fi (gZ cj) [bF] (gc (aS h0) gn)
theorem bMd(l:List Int)(q:List Int)(hl:l.length≤1000)(he:∀ x∈l,q.length≤1000):FMM Tp 163 [.p (aH l),(.fn 94 [] [(.ptr 0 0)])] [some (.box 44 [(.fn 52 [] [(.rp [(aH q)] 0)])])] (pI (bO (fun x => !(ocB q x)) l)) [some (.box 44 [(.fn 52 [] [(.rp [(aH q)] 0)])])]:=by
 rcases aG.find (P:=Tp) (k:=1) (b:=xA) (fun i=>gF l q i) (fun i _=>cQ (gF l q i) [(4,.p (aA (i:Int)))]) (gF l q l.length) .ret (.exit 0) (by simp) (by simp) (fun x => !(ocB q x)) l
  (fun i x hx hp=>by exact aQj (by have:=bA hx;omega) hx (he _ (Bi hx)) (by simpa using hp) (aN (by have:=bA hx;omega)) rfl)
  (fun i x hx hp=>by exact aQi (by have:=bA hx;omega) hx (he _ (Bi hx)) (by simpa using hp))
  (aQk (l:=l) (i:=l.length) (by omega)) with ⟨i,x,h1,h2,h3,h4⟩ | ⟨h1,h2,h3⟩
 ·rw [jR h2];exact bMc h4
 ·rw [jS h1];exact bMb h3
theorem bMe(h0:l.length≤1000)(h1:∀ x∈l,q.length≤1000)(An:r0=(decide ((bO (fun x => !(ocB q x)) l) ≥ 0))):FMM Tp 93 [(.p (aH l)),(.fn 94 [] [(.ptr 0 0)])] [some (.box 44 [(.fn 52 [] [(.rp [(aH q)] 0)])])] (pB r0) [some (.box 44 [(.fn 52 [] [(.rp [(aH q)] 0)])])]:=by
 subst An;have k1:=mq [0] 1 (bMd l q h0 h1);exact FMM.fi 1 gE func93 [k1.o] (gc k1 gn)
theorem bMf(l:List Int)(q:List Int)(hl:l.length≤1000)(he:∀ x∈l,q.length≤1000):FMM Tp 93 [.p (aH l),(.fn 94 [] [(.ptr 0 0)])] [some (.box 44 [(.fn 52 [] [(.rp [(aH q)] 0)])])] (pB (l.any (fun x => !(ocB q x)))) [some (.box 44 [(.fn 52 [] [(.rp [(aH q)] 0)])])]:=bMe hl he (nS _ _).symm
theorem bUd(h0:l.length≤1000)(h1:∀ x∈l,q.length≤1000)(An:r0=(!(l.any (fun x => !(ocB q x))))):FV Tp 51 [(.p (aH l)),(.fn 52 [] [(.rp [(aH q)] 0)])] base (pB r0) []:=by
 subst An;have k1:=mq [0] 1 (bMf l q h0 h1);exact FV.fi func51 [k1.o] (gc k1 gn)
theorem bUe(l:List Int)(q:List Int)(hl:l.length≤1000)(he:∀ x∈l,q.length≤1000){base:Nat}:FV Tp 51 [.p (aH l),(.fn 52 [] [(.rp [(aH q)] 0)])] base (pB (l.all (ocB q))) []:=bUd hl he (by rw [List.all_eq_not_any_not])
def gT(dl:Int)(sk:Lqq)(dc:Lqq)(u:List Int)(i:Int):St:=⟨fr 45 [(1,(.p (aH u))),(6,(.rp (aF dl (aB sk) (aB dc)) 0)),(9,(pI i))],[]⟩
theorem bUf{Av:Int}{R1:Lqq}{T2:Lqb}(h0:cT dl sk dc)(h1:bV (aB dc))(h2:u.length≤1000)(h3:∀ x∈u,(aV dl (aB dc)).length≤1000)(h4:(u.all (ocB (aV dl (aB dc))))=true)(G1:aG Tp 0 aIc (gT dl sk dc u 1) (.exit 0) (gT dl sk dc u Av))(h6:bTy dl (aB sk) (aB dc) (aH u) R1 ([]:Lqb) T2):FV Tp 16 [(.p (.agg (dQ dl sk dc))),(.p (aH u))] base (.tup [(.own base),(pI 0)]) [(base,(.row 63 R1.length (R1.flatten.map aA)))]:=have k1:=fk 1 (kF dl sk dc h0) rfl;have k2:=fk 1 (qV (dl:=dl) (sk:=(aB sk)) (dc:=(aB dc)) h1) rfl;have k3:=fk 1 (bUe u (aV dl (aB dc)) h2 h3) rfl;have k4:=mN [] 0 (oX (dl:=dl) (sk:=(aB sk)) (dc:=(aB dc)) (on:=u.length) (ol:=(u.map aA)));have k5:=mq bz 7 h6;FV.fi func16 [k1.o,bF,k2.o,.g 2 ⟨[],[0],[1,2],[]⟩,k3.o,bF,G1.k 4 (gZ bn),k4.o,k5.o] (gc k5 (gc k4 (gc G1.code (gc (aW h4) (gc k3 (gc k2 (gc bGd (gc k1 gn))))))))
section
variable{i:Int}(h0:i<(u.length:Int))(h1:u[i.toNat]? = some Ag)(h2:0≤i)(h3:inR (i-1))(h4:u[(i-1).toNat]? = some C8)(h5:0≤(i-1))
include h0 h1 h2 h3 h4 h5
theorem bBc(h6:Ag≤C8):aC Tp 0 aIc (gT dl sk dc u i) .ret (cQ (gT dl sk dc u i) [(4,(.p dZ)),(5,(pI 4))]):=aC.fi (gZ [0,1,2,2,7,2,10,30]) [bT,.x (aA Ag),.x (aA C8),bT] (gc (yN h6) (gt ((u.map aA)[((i-1).toNat*1)]? = some (aA C8)) (fD (i:=(i-1).toNat) h4) (gc (iF (g:=aA) h5 h4) (gc h3 (gt ((u.map aA)[(i.toNat*1)]? = some (aA Ag)) (fD (i:=i.toNat) h1) (gc (iF (g:=aA) h2 h1) (g0 h0)))))))
theorem bBd{i':Int}(h6:C8<Ag)(h7:inR (i+1))(Ak:i'=(i+1)):aC Tp 0 aIc (gT dl sk dc u i) .normal (gT dl sk dc u i'):=by
 subst Ak;exact aC.fi (gZ bn) [bT,.x (aA Ag),.x (aA C8),bF] (gc h7 (gc (kT h6) (gt ((u.map aA)[((i-1).toNat*1)]? = some (aA C8)) (fD (i:=(i-1).toNat) h4) (gc (iF (g:=aA) h5 h4) (gc h3 (gt ((u.map aA)[(i.toNat*1)]? = some (aA Ag)) (fD (i:=i.toNat) h1) (gc (iF (g:=aA) h2 h1) (g0 h0))))))))
end
theorem aFh{i:Int}(h0:(u.length:Int)≤i):aC Tp 0 aIc (gT dl sk dc u i) (.exit 0) (gT dl sk dc u i):=aC.fi (gZ bn) [bF] (gc (aS h0) gn)
end
section
variable {n8:Int}{o q:List Int}{i l s:Nat}

def gH(q:List Int)(s i:Nat):List Int:=((List.range i).filter fun j=>s / 2 ^ j % 2 == 1).map fun j=>q.getD j 0
def iQ(q:List Int):Lqq:=(List.range (2 ^ q.length)).map fun s=>gH q s q.length

theorem bLp(h0:0≤(q.length:Int)∧(q.length:Int)≤60∧IntKind.i64 = .i64)(h1:inR ((1:Int)*2 ^ ((q.length:Int).toNat))):dA Tp 0 (sub (cd Tryz.f181) [0]) ⟨fr 35 [(0,(.yld l)),(1,(.rp [(aH q)] 0))],[]⟩ .normal ⟨fr 35 [(0,(.yld l)),(1,(.rp [(aH q)] 0)),(8,(pI ((1:Int)*2 ^ ((q.length:Int).toNat)))),(9,(pI 0))],[]⟩:=dA.fi (gZ [2,6,10,25]) [.x (aH q)] (gc h1 (gc h0 (gr (aH q) gn)))
theorem bLq:dA Tp 0 (sub (cd Tryz.f181) [1,0,0,0]) ⟨fr 35 [(0,(.yld l)),(1,(.rp [(aH q)] 0)),(8,(pI n8)),(9,(pI (s:Int)))],[]⟩ .normal ⟨fr 35 [(0,(.yld l)),(1,(.rp [(aH q)] 0)),(8,(pI n8)),(9,(pI (s:Int))),(10,(pB (decide ((s:Int)<n8))))],[]⟩:=dA.fi (gZ [2,6,11,24]) [] gn
theorem bLr:dA Tp 0 (sub (cd Tryz.f181) [1,0,0,1,1,0,0,0]) ⟨fr 35 [(0,(.yld l)),(1,(.rp [(aH q)] 0)),(8,(pI n8)),(9,(pI (s:Int)))],[]⟩ .normal ⟨fr 35 [(0,(.yld l)),(1,(.rp [(aH q)] 0)),(3,(pI (s:Int))),(8,(pI n8)),(9,(pI (s:Int)))],[]⟩:=dA.fi (gZ [2,1,4,4,10,25]) [] gn
theorem bLs:dA Tp 0 (sub (cd Tryz.f181) [1,0,0,1,1,0,0,1,0]) ⟨fr 35 [(0,(.yld l)),(1,(.rp [(aH q)] 0)),(3,(pI (s:Int))),(8,(pI n8)),(9,(pI (s:Int)))],[]⟩ .normal ⟨fr 35 [(0,(.yld l)),(1,(.rp [(aH q)] 0)),(3,(pI (s:Int))),(4,(.p dZ)),(8,(pI n8)),(9,(pI (s:Int)))],[]⟩:=dA.fi (gZ [2,1,5,3,10,25]) [] gn
theorem bLt:dA Tp 0 (sub (cd Tryz.f181) [1,0,0,1,1,0,0,1,1,0,0]) ⟨fr 35 [(0,(.yld l)),(1,(.rp [(aH q)] 0)),(3,(pI (s:Int))),(4,(.p dZ)),(8,(pI n8)),(9,(pI (s:Int)))],[]⟩ .normal ⟨fr 35 [(0,(.yld l)),(1,(.rp [(aH q)] 0)),(3,(pI (s:Int))),(4,(.own 0)),(8,(pI n8)),(9,(pI (s:Int))),(13,(pI (q.length:Int))),(14,(pI 0))],[some (.row 3 0 [])]⟩:=dA.fi (gN bg [0] [(4,3)]) [.x (aH q)] (gr (aH q) gn)
theorem bLu:dA Tp 0 (sub (cd Tryz.f181) [1,0,0,1,1,0,0,1,1,0,1,0,0,0]) ⟨fr 35 [(0,(.yld l)),(1,(.rp [(aH q)] 0)),(3,(pI (s:Int))),(4,(.own 0)),(8,(pI n8)),(9,(pI (s:Int))),(13,(pI (q.length:Int))),(14,(pI (i:Int)))],[some (.row 3 o.length (o.map aA))]⟩ .normal ⟨fr 35 [(0,(.yld l)),(1,(.rp [(aH q)] 0)),(3,(pI (s:Int))),(4,(.own 0)),(8,(pI n8)),(9,(pI (s:Int))),(13,(pI (q.length:Int))),(14,(pI (i:Int))),(15,(pB (decide ((i:Int)<(q.length:Int)))))],[some (.row 3 o.length (o.map aA))]⟩:=dA.fi (gI [2,1,5,3,10,3,16,19] [0]) [] gn
theorem bLv:dA Tp 0 (sub (cd Tryz.f181) ai) ⟨fr 35 [(0,(.yld l)),(1,(.rp [(aH q)] 0)),(3,(pI (s:Int))),(4,(.own 0)),(8,(pI n8)),(9,(pI (s:Int))),(13,(pI (q.length:Int))),(14,(pI (i:Int)))],[some (.row 3 o.length (o.map aA))]⟩ .normal ⟨fr 35 [(0,(.yld l)),(1,(.rp [(aH q)] 0)),(3,(pI (s:Int))),(4,(.own 0)),(5,(pI (i:Int))),(8,(pI n8)),(9,(pI (s:Int))),(13,(pI (q.length:Int))),(14,(pI (i:Int)))],[some (.row 3 o.length (o.map aA))]⟩:=dA.fi (gI [2,1,6,2,10,3,15,20] [0]) [] gn
theorem bLw(h0:0≤((s:Int).fdiv (2 ^ min ((i:Int).toNat) (IntKind.bits .i64)))∧((s:Int).fdiv (2 ^ min ((i:Int).toNat) (IntKind.bits .i64)))≤9223372036854775807∧(1:Int)=1∧IntKind.i64 = .i64):dA Tp 0 (sub (cd Tryz.f181) af) ⟨fr 35 [(0,(.yld l)),(1,(.rp [(aH q)] 0)),(3,(pI (s:Int))),(4,(.own 0)),(5,(pI (i:Int))),(8,(pI n8)),(9,(pI (s:Int))),(13,(pI (q.length:Int))),(14,(pI (i:Int)))],[some (.row 3 o.length (o.map aA))]⟩ .normal ⟨fr 35 [(0,(.yld l)),(1,(.rp [(aH q)] 0)),(3,(pI (s:Int))),(4,(.own 0)),(5,(pI (i:Int))),(8,(pI n8)),(9,(pI (s:Int))),(13,(pI (q.length:Int))),(14,(pI (i:Int))),(21,(pB ((((s:Int).fdiv (2 ^ min ((i:Int).toNat) (IntKind.bits .i64))) % 2) == 1)))],[some (.row 3 o.length (o.map aA))]⟩:=dA.fi (gI [2,1,6,2,10,3,15,6,22,13] [0]) [] (gc h0 (gt (0≤(i:Int)) (B4 _) gn))
theorem bLx{x0:Int}(h0:q[i]? = some x0)(h1:[(aA x0)].length=1*1∧o.length+1≤1000000):dA Tp 0 (sub (cd Tryz.f181) ae) ⟨fr 35 [(0,(.yld l)),(1,(.rp [(aH q)] 0)),(3,(pI (s:Int))),(4,(.own 0)),(5,(pI (i:Int))),(8,(pI n8)),(9,(pI (s:Int))),(13,(pI (q.length:Int))),(14,(pI (i:Int)))],[some (.row 3 o.length (o.map aA))]⟩ .normal ⟨fr 35 [(0,(.yld l)),(1,(.rp [(aH q)] 0)),(3,(pI (s:Int))),(4,(.own 0)),(8,(pI n8)),(9,(pI (s:Int))),(13,(pI (q.length:Int))),(14,(pI (i:Int)))],[some (.row 3 (o.length+1) ((o.map aA)++[(aA x0)]))]⟩:=dA.fi (gI bg [2]) [.x (aH q),.x (aA x0)] (gc h1 (gc (atm aA h0) (gc (ixn aA h0) (gr (aH q) gn))))
theorem bLy(h0:co i):dA Tp 0 (sub (cd Tryz.f181) an) ⟨fr 35 [(0,(.yld l)),(1,(.rp [(aH q)] 0)),(3,(pI (s:Int))),(4,(.own 0)),(8,(pI n8)),(9,(pI (s:Int))),(13,(pI (q.length:Int))),(14,(pI (i:Int)))],[some (.row 3 o.length (o.map aA))]⟩ .normal ⟨fr 35 [(0,(.yld l)),(1,(.rp [(aH q)] 0)),(3,(pI (s:Int))),(4,(.own 0)),(8,(pI n8)),(9,(pI (s:Int))),(13,(pI (q.length:Int))),(14,(pI (((i+1):Nat):Int)))],[some (.row 3 o.length (o.map aA))]⟩:=dA.fi (gI bg [0]) [] (gc h0 gn)
theorem bLz(h0:co s):dA Tp 0 (sub (cd Tryz.f181) [1,0,0,1,1,1]) ⟨fr 35 [(0,(.yld l)),(1,(.rp [(aH q)] 0)),(8,(pI n8)),(9,(pI (s:Int)))],[]⟩ .normal ⟨fr 35 [(0,(.yld l)),(1,(.rp [(aH q)] 0)),(8,(pI n8)),(9,(pI (((s+1):Nat):Int)))],[]⟩:=dA.fi (gZ [2,6,10,25]) [] (gc h0 gn)
end
end KV
end Go.Proofs
section
namespace Go.Proofs
open Go.RowKit
namespace KV
open Tryz
attribute [local go_sem] Oper.semAt_some
theorem zF(l:List (Nat × AV)):∀ (n k:Nat),(frm l n k).length=n
 | 0,_=>rfl
 | n+1,k=>by unfold frm;rw [tK,zF]
theorem aQg(l:List (Nat × AV)):∀ (n k j:Nat) (h:j<(frm l n k).length),(frm l n k)[j]=look l (k+j)
 | 0,_,j,h=>by simp [frm] at h
 | n+1,k,0,h=>rfl
 | n+1,k,j+1,h=>by
  have:=aQg l n (k+1) j (by rw [zF] at h ⊢;omega)
  rw [show k+(j+1)=k+1+j by omega]
  exact this
theorem aLm{C:Cx}{M:Mem}{w:World}{us:Array Value}:∀ {l:List (Nat × AV)},(∀ p∈l,Rep C M w p.2 (us.getD p.1 undef))→∀ j,Rep C M w (look l j) (us.getD j undef)
 | [],_,j => .any _
 | (i,x)::r,h,j=>by
  unfold look
  split
  ·rename_i hb
   rw [← Nat.eq_of_beq_eq_true hb];exact h (i,x) (jQ ..)
  ·exact aLm (fun p hp=>h p (Cj _ hp)) j
theorem aLn{C:Cx}{M:Mem}{w:World}{us:Array Value}{n:Nat}{l:List (Nat × AV)}(hs:us.size=n)(h:∀ p∈l,Rep C M w p.2 (us.getD p.1 undef)):dP C M w (fr n l) us:=by
 refine ⟨by rw [hs,zF],fun i hi => ?_⟩
 rw [aQg,fG];exact aLm h _
theorem uB{C:Cx}{M:Mem}{w:World}{us:Array Value}{n:Nat}{l:List (Nat × AV)}(h:dP C M w (fr n l) us)(i:Nat)(hi:i<n):Rep C M w (look l i) (us.getD i undef):=by
 have:=h.rep i (by rw [zF];exact hi)
 rwa [aQg,fG] at this

section
variable {P:Program}
def InK(Cv:Cx)(V:World)(v0:Value)(st:St)(a:Act)(w:World):Prop:=Sim Tp Cv [] V st a w∧a.tmps.getD 1 undef=v0∧a.defers=[]
theorem InK.step{Cv:Cx}{V:World}{v0:Value}{c:Code}{st Ah:St}{a:Act}{w:World}{n:Nat}{K:Act→World→Prop}{Q:Exit→Act→World→Prop}(h:dA Tp 0 c st .normal Ah)(hw:wrR c 1=false)(hi:InK Cv V v0 st a w)
  (hK:∀ a' w',InK Cv V v0 Ah a' w'→K a' w'):c.wpIn (Fen none) n Tp (Exit.then K Q) a w :=
 wpIn_mono (h Cv [] V a w (by simp) hi.1 none n) fun e a' w' hq=>by
  obtain ⟨he,hs,hk⟩:=hq;subst he;exact hK a' w' ⟨hs,(hk.1 1 hw).trans hi.2.1,hk.2.trans hi.2.2⟩
end
noncomputable abbrev cO:Code:=cd Tryz.f181
abbrev stA(l:Nat)(q:List Int)(n8:Int)(s:Nat):St:=⟨fr 35 [(0,.yld l),(1,.rp [aH q] 0),(8,.p (aA n8)),(9,.p (aA (s:Int)))],[]⟩
abbrev stB(l:Nat)(q:List Int)(n8:Int)(s:Nat)(o:List Int)(i:Nat):St:=⟨fr 35 [(0,.yld l),(1,.rp [aH q] 0),(3,.p (aA (s:Int))),(4,.own 0),(8,.p (aA n8)),(9,.p (aA (s:Int))),(13,.p (aA (q.length:Int))),(14,.p (aA (i:Int)))],[some (.row 3 o.length (o.map aA))]⟩
theorem bAt(q:List Int)(s i:Nat):gH q s (i+1)=gH q s i++if s / 2 ^ i % 2 == 1 then [q.getD i 0] else []:=by
 unfold gH;rw [List.range_succ,sC,fL]
 congr 1
 cases h:s / 2 ^ i % 2 == 1 <;> simp [h]
theorem aLo(q:List Int)(s i:Nat):(gH q s i).length≤i:=by
 unfold gH;rw [eI];have:=yK (fun j=>s / 2 ^ j % 2 == 1) (List.range i)
 rwa [bHt] at this
theorem bLo(s i:Nat)(hi:i≤60):(s:Int).fdiv (2 ^ min ((i:Int).toNat) (IntKind.bits .i64))=((s / 2 ^ i:Nat):Int):=by
 have hb:IntKind.bits .i64=64:=rfl;rw [aKe,hb,Nat.min_eq_left (by omega),Int.fdiv_eq_ediv_of_nonneg _ (by exact_mod_cast Nat.zero_le _)]
 push_cast
 rfl
theorem bFx{Cv:Cx}{V:World}{v0:Value}{l:Nat}{q:List Int}{n8:Int}{s:Nat}(hq:q.length≤60)(hs:s≤9223372036854775807){n:Nat}{K:Act→World→Prop}{Q:Exit→Act→World→Prop}{a:Act}{w:World}
  (hi:InK Cv V v0 (stB l q n8 s [] 0) a w) (hK:∀ a' w',InK Cv V v0 (stB l q n8 s (gH q s q.length) q.length) a' w'→K a' w') :
  (Code.block 2 (.loop (sub cO [1,0,0,1,1,0,0,1,1,0,1,0,0]))).wpIn (Fen none) n Tp (Exit.then K Q) a w:=by
 refine wpIn_block ?_;refine wpIn_loop_ghost (fun k a w=>∃ i,i≤q.length∧k=q.length-i∧InK Cv V v0 (stB l q n8 s (gH q s i) i) a w) q.length ⟨0,by omega,by omega,hi⟩ ?_
 rintro k a w ⟨i,hil,rfl,hI⟩;have e1:sub cO [1,0,0,1,1,0,0,1,1,0,1,0,0] = .seq (sub cO [1,0,0,1,1,0,0,1,1,0,1,0,0,0]) (.seq (.cond (.tmp 15) .skip (.exit 2)) (.seq (.block 3 (.seq (sub cO ai) (.seq (sub cO af) (.cond (.tmp 21) (sub cO ae) .skip)))) (sub cO an))):=by kernel_rfl
 rw [e1];refine wpIn_seq ?_;refine InK.step bLu (by kernel_rfl) hI fun a1 w1 h1 => ?_
 refine wpIn_seq ?_;obtain ⟨⟨C1,Hv,_⟩,_⟩:=id h1;have Nm:a1.eval (.tmp 15) = .bool (decide ((i:Int)<(q.length:Int))):=by
  have:=uB Hv 15 (by omega)
  show a1.tmps.getD 15 undef=_;generalize a1.tmps.getD 15 undef=u at this
  have h2:Rep C1 _ w1 (.p (.v (.bool (decide ((i:Int)<(q.length:Int)))))) u:=this;cases h2 with
  | p _ _ h=>cases h;rfl
 by_cases hlt:i<q.length
 ·refine wpIn_cond_true (by rw [Nm,decide_eq_true (by omega)]) (wpIn_skip ?_)
  show Code.wpIn _ _ _ _ _ _ _;have Hj:InK Cv V v0 (stB l q n8 s (gH q s i) i) a1 w1:=⟨(dY (g:=⟨[15],[0],[],[]⟩) (k:=0) (dH _) (by kernel_rfl) h1.1),h1.2⟩
  refine wpIn_seq ?_;have hsd:=bLo s i (by omega)
  have hx:q[i]? = some (q.getD i 0):=by rw [Bm,Aq hlt];rfl
  have hpl:=aLo q s i;have hfin:∀ a2 w2,InK Cv V v0 (stB l q n8 s (gH q s (i+1)) i) a2 w2→(sub cO an).wpIn (Fen none) n Tp (Exit.then (fun a' w'=>∃ n',n'<q.length-i∧∃ i',i'≤q.length∧n'=q.length-i'∧InK Cv V v0 (stB l q n8 s (gH q s i') i') a' w') (Exit.inBlock 2 (Exit.then K Q))) a2 w2:=fun a2 w2 h2 =>
   InK.step (bLy (aN (by omega))) (by kernel_rfl) h2 fun a3 w3 h3=>⟨q.length-(i+1),by omega,i+1,by omega,rfl,h3⟩
  refine wpIn_block ?_;refine wpIn_seq ?_;refine InK.step bLv (by kernel_rfl) Hj fun a2 w2 h2 => ?_
  refine wpIn_seq ?_;have hle:s / 2 ^ i≤s:=Nat.div_le_self _ _;refine InK.step (bLw (s:=s) (i:=i) ⟨by rw [hsd];exact B4 _,by rw [hsd];exact Int.ofNat_le.2 (fM hle hs),rfl,rfl⟩) (by kernel_rfl) h2 fun a3 w3 h3 => ?_
  obtain ⟨⟨C3,Ik,_⟩,_⟩:=id h3;have Nn:a3.eval (.tmp 21) = .bool (s / 2 ^ i % 2 == 1):=by
   have:=uB Ik 21 (by omega)
   show a3.tmps.getD 21 undef=_;generalize a3.tmps.getD 21 undef=u at this
   have h2:Rep C3 _ w3 (.p (.v (.bool (((s:Int).fdiv (2 ^ min ((i:Int).toNat) (IntKind.bits .i64))) % 2 == 1)))) u:=this;cases h2 with
   | p _ _ h =>
    cases h;rw [hsd]
    congr 1
    generalize s / 2 ^ i=z;rw [Bool.eq_iff_iff,beq_iff_eq,beq_iff_eq];omega
  have Np:InK Cv V v0 ⟨fr 35 [(0,.yld l),(1,.rp [aH q] 0),(3,.p (aA (s:Int))),(4,.own 0),(5,.p (aA (i:Int))),(8,.p (aA n8)),(9,.p (aA (s:Int))),(13,.p (aA (q.length:Int))),(14,.p (aA (i:Int)))],[some (.row 3 (gH q s i).length ((gH q s i).map aA))]⟩ a3 w3:=⟨(dY (g:=⟨[21],[0],[],[]⟩) (k:=0) (dH _) (by kernel_rfl) h3.1),h3.2⟩
  have hp:=bAt q s i;cases hb:s / 2 ^ i % 2 == 1 with
  | true =>
   refine wpIn_cond_true (by rw [Nn,hb]) ?_
   rw [hb,if_pos rfl] at hp
   refine wpIn_mono (bLx (o:=gH q s i) hx ⟨rfl,by omega⟩ Cv [] V a3 w3 (by simp) Np.1 none n) ?_
   rintro e a4 w4 ⟨rfl,h4,Rf⟩;refine hfin a4 w4 ⟨?_,(Rf.1 1 (by kernel_rfl)).trans Np.2.1,Rf.2.trans Np.2.2⟩
   have e8:(stB l q n8 s (gH q s (i+1)) i)=⟨fr 35 [(0,.yld l),(1,.rp [aH q] 0),(3,.p (aA (s:Int))),(4,.own 0),(8,.p (aA n8)),(9,.p (aA (s:Int))),(13,.p (aA (q.length:Int))),(14,.p (aA (i:Int)))],[some (.row 3 ((gH q s i).length+1) ((gH q s i).map aA++[aA (q.getD i 0)]))]⟩:=by
    rw [hp];unfold stB;rw [lT,fL];rfl
   rw [e8];exact h4
  | false =>
   refine wpIn_cond_false (by rw [Nn,hb]) (wpIn_skip ?_)
   rw [hb,if_neg (by simp),List.append_nil] at hp
   refine hfin a3 w3 ?_;rw [hp];exact ⟨(dY (g:=⟨[5],[0],[],[]⟩) (k:=0) (dH _) (by kernel_rfl) Np.1),Np.2⟩
 ·obtain rfl:i=q.length:=by omega
  refine wpIn_cond_false (by rw [Nm,decide_eq_false (by omega)]) (wpIn_exit ?_)
  show Exit.inBlock 2 (Exit.then K Q) (.exit 2) a1 w1
  unfold Exit.inBlock;dsimp only;rw [if_pos rfl];exact hK a1 w1 ⟨(dY (g:=⟨[15],[0],[],[]⟩) (k:=0) (dH _) (by kernel_rfl) h1.1),h1.2⟩
theorem aIa{a:Act}{W:World}{l id t0 t1 t2 t3:Nat}{ts:Array TypeId}{p0 p1 p2 p3:String}{f0 f1 f2 f3:Array Edge}{u:Value}{A B:World→Prop}{K:Act→World→Prop}{Q:Exit→Act→World→Prop}
  (hs:a.tmps.size=35) (h0:a.tmps.getD 0 undef = .func (.yield l) #[] #[]) (h4:a.tmps.getD 4 undef=u)
  (hy:YieldAt (Fen none) 1 Tp l #[u] W (fun e W'=>(e = .returned (.bool true)∧A W')∨(e = .returned (.bool false)∧B W')))
  (hA:∀ a' W',A W'→a'.defers=a.defers→a'.tmps.size=35→(∀ i,i<30→a'.tmps.getD i undef=a.tmps.getD i undef)→a'.tmps.getD 33 undef = .bool false→K a' W')
  (hB:∀ a' W',B W'→a'.defers=a.defers→a'.tmps.getD 33 undef = .bool true→K a' W') :
  (Code.region id #[{ dst:=some 30,op := .move (.tmp 0),type:=t0,pos:=p0,after:=f0,guard:=none },{ dst:=some 31,op := .move (.tmp 4),type:=t1,pos:=p1,after:=f1,guard:=none },
   {dst:=some 32,op := .call { callee := .value (.tmp 30),args := #[.tmp 31],argTypes:=ts },type:=t2,pos:=p2,after:=f2,guard:=none },{ dst:=some 33,op := .unOp .not 4 (.tmp 32),type:=t3,pos:=p3,after:=f3,guard:=none }] false).wpIn (Fen none) 2 Tp (Exit.then K Q) a W:=by
 refine wpIn_region_lit (wpListIn_plain rfl fun K1 P8 => ?_)
 unfold Oper.wpIn;refine ⟨fun f _=>trivial,?_⟩
 rw [Oper.semAt_plain _ _ _ (by intro c Ga;cases Ga)]
 simp only [execOp,Sem.run_pure];refine P8 _ _ (wpListIn_plain rfl fun K2 L9 => ?_)
 unfold Oper.wpIn;refine ⟨fun f _=>trivial,?_⟩
 rw [Oper.semAt_plain _ _ _ (by intro c Ga;cases Ga)]
 simp only [execOp,Sem.run_pure];refine L9 _ _ (wpListIn_plain rfl fun K3 Mq => ?_)
 unfold Oper.wpIn;refine ⟨fun f _=>trivial,?_⟩
 rw [Oper.semAt_plain _ _ _ (by intro c Ga;cases Ga)]
 obtain ⟨fn,tmps,assign,body,hrun,hR⟩:=hy;have P9:(((a.put (some 30) (a.eval (.tmp 0))).put (some 31) ((a.put (some 30) (a.eval (.tmp 0))).eval (.tmp 4)))).eval (.tmp 30) = .func (.yield l) #[] #[]:=by
  show ((a.tmps.setIfInBounds 30 (a.tmps.getD 0 undef)).setIfInBounds 31 _).getD 30 undef=_;rw [h0];simp [Bb,Array.getElem?_setIfInBounds,hs]
 have Qa:(((a.put (some 30) (a.eval (.tmp 0))).put (some 31) ((a.put (some 30) (a.eval (.tmp 0))).eval (.tmp 4)))).eval (.tmp 31)=u:=by
  show ((a.tmps.setIfInBounds 30 (a.tmps.getD 0 undef)).setIfInBounds 31 ((a.tmps.setIfInBounds 30 (a.tmps.getD 0 undef)).getD 4 undef)).getD 31 undef=_;rw [← h4];simp [Bb,Array.getElem?_setIfInBounds,hs]
 have Mo:∀ i,i<30→(((a.put (some 30) (a.eval (.tmp 0))).put (some 31) ((a.put (some 30) (a.eval (.tmp 0))).eval (.tmp 4)))).tmps.getD i undef=a.tmps.getD i undef:=fun i hi=>by
  rw [nX (fun e=>by cases e;omega),nX (fun e=>by cases e;omega)]
 have eD:(((a.put (some 30) (a.eval (.tmp 0))).put (some 31) ((a.put (some 30) (a.eval (.tmp 0))).eval (.tmp 4)))).defers=a.defers:=rfl;have eS:(((a.put (some 30) (a.eval (.tmp 0))).put (some 31) ((a.put (some 30) (a.eval (.tmp 0))).eval (.tmp 4)))).tmps.size=35:=by
  show ((a.tmps.setIfInBounds _ _).setIfInBounds _ _).size=35;simp [hs]
 revert P9 Qa Mo eD eS;dsimp only;generalize (((a.put (some 30) (a.eval (.tmp 0))).put (some 31) ((a.put (some 30) (a.eval (.tmp 0))).eval (.tmp 4))))=a2;intro P9 Qa Mo eD eS;have er:Sem.run Tp (execOp a2.eval { dst:=some 32,op := .call { callee := .value (.tmp 30),args := #[.tmp 31],argTypes:=ts },type:=t2,pos:=p2,after:=f2,guard:=none }) W = .ok (.round l fn tmps assign body) W:=by
  rw [← hrun];simp only [execOp,resolve,Deferred.ofValue,P9,Qa,List.map_toArray,gY,List.map_nil,Sem.run_bind,Sem.run_pure,invoke];simp
 rw [er,Oper.uponIn_round];refine ⟨fun h=>by simp [Fen,Fence.wide] at h,hR.mono ?_⟩
 have last:∀ (b:Bool) (w3:World),(∀ a',a'.defers=a.defers→a'.tmps.size=35→(∀ i,i<30→a'.tmps.getD i undef=a.tmps.getD i undef)→a'.tmps.getD 33 undef = .bool (!b)→K a' w3)→K3 (a2.put (some 32) (.bool b)) w3:=fun b w3 hfin=>by
  refine Mq _ _ (wpListIn_plain rfl fun K4 Mf => ?_)
  unfold Oper.wpIn;refine ⟨fun f _=>trivial,?_⟩
  rw [Oper.semAt_plain _ _ _ (by intro c Ga;cases Ga)]
  have Tz:(a2.put (some 32) (.bool b)).eval (.tmp 32) = .bool b:=by
   show (a2.tmps.setIfInBounds 32 _).getD 32 undef=_;simp [Bb,eS]
  have eu:Sem.run Tp (execOp (a2.put (some 32) (.bool b)).eval { dst:=some 33,op := .unOp .not 4 (.tmp 32),type:=t3,pos:=p3,after:=f3,guard:=none }) w3 = .ok (.value (.bool !b)) w3:=by
   simp only [execOp,Tz];rfl
  rw [eu];refine Mf _ _ (wpListIn_nil (hfin _ eD ?_ (fun i hi => ?_) ?_))
  ·show ((a2.tmps.setIfInBounds _ _).setIfInBounds _ _).size=35
   simp [eS]
  ·rw [nX (fun e=>by cases e;omega),nX (fun e=>by cases e;omega)]
   exact Mo i hi
  ·show ((a2.tmps.setIfInBounds 32 _).setIfInBounds 33 _).getD 33 undef=_
   simp [Bb,eS]
 rintro e w3 (⟨rfl,h⟩ | ⟨rfl,h⟩)
 ·exact last true w3 fun a' h1 h2 h3 h4=>hA a' w3 h h1 h2 h3 h4
 ·exact last false w3 fun a' h1 h2 h3 h4=>hB a' w3 h h1 h4
end KV
end Go.Proofs
end
section
namespace Go.Proofs
open Go.RowKit
namespace KV
open Tryz
structure Lp (l:Nat) (v0:Value) (n8:Int) (s:Nat) (a:Act):Prop where
 size:a.tmps.size=35
 s0:a.tmps.getD 0 undef = .func (.yield l) #[] #[]
 s1:a.tmps.getD 1 undef=v0
 s8:a.tmps.getD 8 undef = .int .i64 n8
 s9:a.tmps.getD 9 undef = .int .i64 (s:Int)
 df:a.defers=[]
abbrev cxF(F:Nat→Prop):Cx:={ ι:=fun _=>none,κ:=fun _=>0,F:=F,R:=[] }
theorem aSx{P:Program}{F:Nat→Prop}{W:World}(hF:∀ b,F b→b<W.heap.size):aP P (cxF F) [] W :=
 ⟨fun _ _ _ _ h=>by simp at h,fun _ _ _ h=>by simp at h,fun _ _ _ h=>by simp at h,fun _ _ _ _ _ h=>by simp at h,fun _ _ _ h=>by simp at h,hF,fun _ _ _ h=>by simp at h⟩
theorem aLk{C:Cx}{M:Mem}{w:World}{n:Int}{u:Value}(h:Rep C M w (.p (aA n)) u):u = .int .i64 n:=by
 cases h with
 | p _ _ h=>cases h;rfl
theorem Lp.ink{F:Nat→Prop}{l:Nat}{v0:Value}{q:List Int}{n8:Int}{s:Nat}{a:Act}{W:World}(h:Lp l v0 n8 s a)(hF:∀ b,F b→b<W.heap.size)(hr:Rep (cxF F) [] W (.rp [aH q] 0) v0):InK (cxF F) W v0 (stA l q n8 s) a W:=by
 refine ⟨⟨cxF F,aLn h.size ?_,aSx hF,Fr.refl _ _ _,?_⟩,h.s1,h.df⟩
 ·intro p hp
  simp only [gX,List.not_mem_nil,or_false] at hp
  rcases hp with rfl | rfl | rfl | rfl
  ·rw [h.s0];exact .yld l
  ·rw [h.s1];exact hr
  ·rw [h.s8];exact .p _ _ (.v _)
  ·rw [h.s9];exact .p _ _ (.v _)
 ·rw [h.df];exact .nil rfl (nI rfl)
theorem InK.lp{Cv:Cx}{V W:World}{l:Nat}{v0:Value}{n8:Int}{s:Nat}{a:Act}{st:St}(h:InK Cv V v0 st a W)(Tv:st.t.length=35)(e0:st.t[0]? = some (.yld l))(e8:st.t[8]? = some (.p (aA n8)))(e9:st.t[9]? = some (.p (aA (s:Int)))):Lp l v0 n8 s a:=by
 obtain ⟨⟨C,hS,_⟩,h1,hd⟩:=h;refine ⟨hS.size.trans Tv,?_,h1,aLk (hS.at e8),aLk (hS.at e9),hd⟩
 have:=hS.at e0
 revert this;generalize a.tmps.getD 0 undef=u;intro this;cases this;rfl
theorem aLl{C0 C:Cx}{V W:World}{M:Mem}(h:Fr C0 [] V C M W):V.grownBy W none :=
 ⟨h.os,h.tape,h.out,h.size,fun k hk _=>h.keep k hk (fun _ _ h=>by simp at h)⟩
theorem InK.grown{Cv:Cx}{V W:World}{v0:Value}{st:St}{a:Act}(h:InK Cv V v0 st a W):V.grownBy W none:=by
 obtain ⟨⟨C,_,_,hF,_⟩,_⟩:=h;exact aLl hF
theorem InK.kp{Cv:Cx}{V W:World}{v0:Value}{st:St}{a:Act}(h:InK Cv V v0 st a W){F:Nat→Prop}(hF:∀ b,F b→b<V.heap.size):KpG F V W :=
 ⟨h.grown.size,fun b hb=>nY h.grown b (hF b hb)⟩
theorem InK.rowH{F:Nat→Prop}{V W:World}{v0:Value}{st:St}{a:Act}{o:List Int}(h:InK (cxF F) V v0 st a W)(e4:st.t[4]? = some (.own 0))(em:st.m=[some (lA o)])(hl:o.length≤1000):bFz Tp (o,a.tmps.getD 4 undef) V W:=by
 obtain ⟨⟨C,hS,hM,hF,_⟩,_⟩:=h;refine ⟨hl,C,em ▸ hM,em ▸ hS.at e4,fun b hb => ?_⟩
 rcases hF.new 0 (lA o) b (by rw [em];rfl) rfl hb with h | ⟨i,o',h,_⟩
 ·exact h
 ·simp at h
theorem aSy{n:Nat}(h:n≤1152921504606846977):inR (n:Int):=by unfold inR;omega
theorem bFw{n:Nat}(h:n≤60):(2:Nat) ^ n≤1152921504606846976:=fM (Nat.pow_le_pow_right (by omega) h) (by decide)
theorem bAq(q:List Int)(s:Nat)(h:s<2 ^ q.length):(iQ q).take (s+1)=(iQ q).take s++[gH q s q.length]:=by
 rw [List.take_add_one]
 congr 1
 unfold iQ;rw [eX,aGn h];rfl
theorem vN(q:List Int):(iQ q).length=2 ^ q.length:=by unfold iQ;simp
set_option maxHeartbeats 2000000 in
theorem bAr{F:Nat→Prop}{q:List Int}(hq:q.length≤60){l:Nat}{v0:Value}{w:World}(hF:∀ b,F b→b<w.heap.size)(hr:Rep (cxF F) [] w (.rp [aH q] 0) v0){a:Act}(ha:a.tmps.size=35)(Tw:a.tmps.getD 0 undef = .func (.yield l) #[] #[])(Lm:a.tmps.getD 1 undef=v0)(had:a.defers=[])
  {J Jx:List (List Int × Value)→World→Prop} (hJ:AbidesFrom w.heap.size J) (hJx:AbidesFrom w.heap.size Jx)
  (hY:∀ pre x W0 W1,J pre W0→W0.grownBy W1 none→bFz Tp x W0 W1→pre.length<2 ^ q.length→YieldAt (Fen none) 1 Tp l #[x.2] W1 fun e W' =>
   (e = .returned (.bool true)∧J (pre++[x]) W'∧KpG F W0 W')∨(e = .returned (.bool false)∧Jx (pre++[x]) W'))
  (h0:J [] w) {R:Ending→World→Prop} (hR:∀ W',((∃ xs:List (List Int × Value),xs.map (·.1)=iQ q∧J xs W')∨(∃ pre:List (List Int × Value),pre.map (·.1) <+: iQ q∧Jx pre W'))→R (.returned (.tuple #[])) W') :
  cO.wpIn (Fen none) 2 Tp (bodyPost Tp Tryz.f181 R) a w:=by
 have hpow:=bFw hq;obtain ⟨N,hN⟩:∃ N,2 ^ q.length=N:=⟨_,rfl⟩;rw [hN] at hpow
 have c0 : cO = .seq (sub cO [0]) (.block 0 (.loop (.seq (sub cO [1, 0, 0, 0]) (.seq (.cond (.tmp 10) .skip (.exit 0)) (.seq (.block 1 (.seq (sub cO [1, 0, 0, 1, 1, 0, 0, 0]) (.seq (sub cO [1, 0, 0, 1, 1, 0, 0, 1, 0]) (.seq (.seq (sub cO [1, 0, 0, 1, 1, 0, 0, 1, 1, 0, 0]) (.block 2 (.loop (sub cO [1, 0, 0, 1, 1, 0, 0, 1, 1, 0, 1, 0, 0])))) (.seq (.region 10 #[{ dst := some 30, op := .move (.tmp 0), type := 189, pos := "outcome.go:38", after := #[], guard := none }, { dst := some 31, op := .move (.tmp 4), type := 31, pos := "outcome.go:38", after := #[], guard := none }, { dst := some 32, op := .call { callee := .value (.tmp 30), args := #[.tmp 31], argTypes := #[31] }, type := 4, pos := "outcome.go:38", after := #[{ on := 0, ground := .data }, { on := 1, ground := .data }], guard := none }, { dst := some 33, op := .unOp .not 4 (.tmp 32), type := 4, pos := "outcome.go:38", after := #[{ on := 2, ground := .data }], guard := none }] false) (.cond (.tmp 33) .ret .skip)))))) (sub cO [1, 0, 0, 1, 1, 1])))))) := by kernel_rfl
 rw [c0];have hsame:∀ {W'},KpG F w W'→Rep (cxF F) [] W' (.rp [aH q] 0) v0:=fun hk=>by
  cases hr with
  | rp _ _ b o us h1 h2 h3 =>
   exact .rp _ _ b o us (fun i hi=>⟨(h1 i hi).1,(dV (hk.same b (h1 i hi).1) _).trans (h1 i hi).2⟩) (fun i hi=>(h2 i hi).mono (fun _ h=>h) hk.same) h3
 have hFw:∀ {W'},KpG F w W'→∀ b,F b→b<W'.heap.size:=fun hk b hb=>Cg (hF b hb) hk.size
 have Re:(1:Int)*2 ^ ((q.length:Int).toNat)=(N:Int):=by
  rw [aKe,Int.one_mul,← hN];push_cast;rfl
 have P5:InK (cxF F) w v0 ⟨fr 35 [(0,.yld l),(1,.rp [aH q] 0)],[]⟩ a w:=by
  refine ⟨⟨cxF F,aLn ha ?_,aSx hF,Fr.refl _ _ _,by rw [had];exact .nil rfl (nI rfl)⟩,Lm,had⟩
  intro p hp;simp only [gX,List.not_mem_nil,or_false] at hp
  rcases hp with rfl | rfl
  ·rw [Tw];exact .yld l
  ·rw [Lm];exact hr
 refine wpIn_seq ?_;refine InK.step (bLp (l:=l) (q:=q) ⟨by omega,by omega,rfl⟩ (by rw [Re];exact aSy (by omega))) (by kernel_rfl) P5 fun a1 w1 h1 => ?_
 rw [Re] at h1
 refine wpIn_block ?_;refine wpIn_loop_ghost (fun k a W=>∃ s,s≤N∧k=N-s∧Lp l v0 (N:Int) s a∧KpG F w W∧∃ pre:List (List Int × Value),pre.map (·.1)=(iQ q).take s∧J pre W) (N)
  ⟨0,by omega,by omega,h1.lp (s:=0) (by rfl) (by rfl) (by rfl) (by rfl),h1.kp hF,[],by simp,hJ [] w w1 none h0 h1.grown (fun r e=>by cases e)⟩ ?_
 rintro k a W ⟨s,hs,rfl,hL,hK,pre,hpre,hJp⟩;have hI:=hL.ink (hFw hK) (hsame hK);have grow:∀ {W0 W':World} {ys},KpG F w W0→J ys W0→W0.grownBy W' none→J ys W':=fun hk hj hg=>hJ _ _ _ none hj hg (fun r e=>by cases e)
 refine wpIn_seq ?_;refine InK.step bLq (by kernel_rfl) hI fun a2 w2 h2 => ?_
 have Ni:a2.eval (.tmp 10) = .bool (decide ((s:Int)<(N:Int))):=by
  obtain ⟨⟨C2,Nj,_⟩,_⟩:=id h2;have:=uB Nj 10 (by omega)
  show a2.tmps.getD 10 undef=_;revert this;generalize a2.tmps.getD 10 undef=u;intro this;have h3:Rep C2 _ w2 (.p (.v (.bool (decide ((s:Int)<(N:Int)))))) u:=this;cases h3 with
  | p _ _ h=>cases h;rfl
 refine wpIn_seq ?_
 by_cases hlt:s<N
 ·refine wpIn_cond_true (by rw [Ni,decide_eq_true (by omega)]) (wpIn_skip ?_)
  show Code.wpIn _ _ _ _ _ _ _;have Et:InK (cxF F) W v0 (stA l q (N:Int) s) a2 w2:=⟨(dY (g:=⟨[10],[],[],[]⟩) (k:=0) (dH _) (by kernel_rfl) h2.1),h2.2⟩
  refine wpIn_seq ?_;refine wpIn_block ?_;refine wpIn_seq ?_;refine InK.step bLr (by kernel_rfl) Et fun a3 w3 h3 => ?_
  refine wpIn_seq ?_;refine InK.step bLs (by kernel_rfl) h3 fun a4 w4 h4 => ?_
  refine wpIn_seq ?_;refine wpIn_seq ?_;refine InK.step bLt (by kernel_rfl) h4 fun a5 w5 h5 => ?_
  refine bFx hq (by omega) h5 fun a6 w6 h6 => ?_
  refine wpIn_seq ?_;have J0:Lp l v0 (N:Int) s a6:=h6.lp (s:=s) (by rfl) (by rfl) (by rfl) (by rfl)
  have hpl:pre.length=s:=by
   have:=congrArg List.length hpre;rw [eI,mP,vN,hN] at this
   omega
  have hrow:bFz Tp (gH q s q.length,a6.tmps.getD 4 undef) W w6:=h6.rowH (by rfl) (by rfl) (fM (aLo q s q.length) (by omega))
  have hmap:(pre++[(gH q s q.length,a6.tmps.getD 4 undef)]).map (·.1)=(iQ q).take (s+1):=by
   rw [bAq q s (hN ▸ hlt),fL,hpre];rfl
  refine aIa J0.size J0.s0 rfl (hY pre _ W w6 hJp h6.grown hrow (by omega)) (A:=fun W'=>J (pre++[(gH q s q.length,a6.tmps.getD 4 undef)]) W'∧KpG F W W') (B:=fun W'=>Jx (pre++[(gH q s q.length,a6.tmps.getD 4 undef)]) W') ?_ ?_
  ·rintro a7 w7 ⟨P6,Tx⟩ P7 Pi It Nk
   refine wpIn_cond_false Nk (wpIn_skip ?_);show Code.wpIn _ _ _ _ _ _ _;have Ty:Lp l v0 (N:Int) s a7:=⟨Pi,(It 0 (by omega)).trans J0.s0,(It 1 (by omega)).trans J0.s1,(It 8 (by omega)).trans J0.s8,(It 9 (by omega)).trans J0.s9,P7.trans J0.df⟩
   have Nl:=hK.trans Tx;refine InK.step (bLz (aSy (by omega))) (by kernel_rfl) (Ty.ink (hFw Nl) (hsame Nl)) fun a8 w8 h8 => ?_
   exact ⟨N-(s+1),by omega,s+1,by omega,rfl,h8.lp (by rfl) (by rfl) (by rfl) (by rfl),Nl.trans (h8.kp (hFw Nl)),_,hmap,grow Nl P6 h8.grown⟩
  ·rintro a7 w7 P6 P7 Nk
   refine wpIn_cond_true Nk (wpIn_ret ?_);exact bodyPost_ret (results_none rfl _ _ _) (P7.trans J0.df) (hR _ (.inr ⟨_,by rw [hmap];exact List.take_prefix _ _,P6⟩))
 ·have hsN:s=N:=by omega
  subst hsN;refine wpIn_cond_false (by rw [Ni,decide_eq_false (by omega)]) (wpIn_exit ?_)
  have Fz:Lp l v0 (s:Int) s a2:=h2.lp (by rfl) (by rfl) (by rfl) (by rfl)
  show Exit.inBlock 0 (bodyPost Tp Tryz.f181 R) (.exit 0) a2 w2;unfold Exit.inBlock;dsimp only;rw [if_pos rfl];refine ⟨Fz.df,_,results_none rfl _ _ _,hR _ (.inl ⟨pre,?_,grow hK hJp h2.grown⟩)⟩;rw [hpre,← hN,← vN,List.take_length]
theorem bVs{C:Cx}{M:Mem}{w:World}{cs:List PV}{k:Nat}{u:Value}(h:Rep C M w (.rp cs k) u):Rep (cxF C.F) [] w (.rp cs k) u:=by
 cases h with
 | rp _ _ b o us h1 h2 h3=>exact .rp _ _ b o us h1 h2 h3
theorem bVt{F:Nat→Prop}{w W:World}{cs:List PV}{k:Nat}{u:Value}(h:Rep (cxF F) [] w (.rp cs k) u)(hk:KpG F w W):Rep (cxF F) [] W (.rp cs k) u:=by
 cases h with
 | rp _ _ b o us h1 h2 h3=>exact .rp _ _ b o us (fun i hi=>⟨(h1 i hi).1,(dV (hk.same b (h1 i hi).1) _).trans (h1 i hi).2⟩) (fun i hi=>(h2 i hi).mono (fun _ h=>h) hk.same) h3
theorem bAs(y v0:Value)(k:Nat):(#[y] ++ #[v0]++Array.replicate k undef).size=2+k∧(#[y] ++ #[v0]++Array.replicate k undef).getD 0 undef=y∧(#[y] ++ #[v0]++Array.replicate k undef).getD 1 undef=v0:=by
 refine ⟨by simp,?_,?_⟩ <;> simp [Bb,Array.getElem?_append]
theorem aFd(q:List Int)(hq:q.length≤60):bNc Tp (.fn 181 [] [.rp [aH q] 0]) 181 (2 ^ q.length) (iQ q):=fun C M w u Mp hFs=>by
 cases Mp with
 | fn _ _ _ us vs h1 h2 h3 h4 =>
  obtain rfl:us = #[]:=by simpa using h1
  have q0:=h4 0 (by simp)
  simp only [List.getElem_cons_zero] at q0
  obtain ⟨v0,rfl⟩:∃ v0,vs = #[v0]:=by
   have:vs.toList.length=1:=by simpa using h2
   match hv:vs.toList,this with
   | [x0],_=>exact ⟨x0,by rw [← hv]⟩
  change Rep C M w (.rp [aH q] 0) v0 at q0
  have hr:=bVs q0;refine ⟨#[v0],rfl,fun l J Jx W hW hJ hJx hY h0 => ?_⟩
  have hk:KpG C.F w W:=⟨hW.size,fun b hb=>hW.block b (hFs b hb)⟩
  have Fv:=bVt hr hk;refine callsIn_of_wp func181 rfl trivial ?_ rfl;obtain ⟨k1,k2,k3⟩:=bAs (.func (.yield l) #[] #[]) v0 (Tryz.f181.ntmps-(#[Value.func (.yield l) #[] #[]] ++ #[v0]).size);exact bAr hq (fun b hb=>Cg (hFs b hb) hW.size) Fv (a:={ tmps := #[.func (.yield l) #[] #[]] ++ #[v0]++Array.replicate (Tryz.f181.ntmps-(#[Value.func (.yield l) #[] #[]] ++ #[v0]).size) undef,defers:=[] }) k1 k2 k3 rfl hJ hJx hY h0 fun W' h=>⟨⟨_,rfl⟩,h⟩
end KV
end Go.Proofs
end
namespace Go.Proofs
namespace KV
open Tryz
section
variable {r0 Bj:Bool}{m n dl tm bib Ag:Int}{dc sk:Lqq}{c l c' Cs:List Int}{i j i' i0 j' Av B0 N6 base:Nat}
variable {dl:Int}{sk dc:Lqq}

noncomputable abbrev nB:Code:=sub (cd Tryz.f163) [1,0,1,0,0]
noncomputable abbrev rB:Code:=sub (cd Tryz.f137) [1,1,1,0,1,0,0]
theorem bFt:((-1:Int) == (-1))=true:=by first | decide | simp
theorem aPy{q:List Int}:FV Tp 136 [(.p (aH q))] base (.fn 181 [] [(.rp [(aH q)] 0)]) []:=FV.fi func136 [.g 3 ⟨[],[],[0],[]⟩] gn
abbrev bFu(dl:Int)(sk dc:Lqq)(x:List Int)(r:Int):Prop:=∀ base:Nat,FV Tp 134 [qY dl sk dc,.p (.agg (x.map aA))] base (pI r) []
theorem bTs{y0 y1 y2 y3 y4 y5 r6:Int}(h0:bQ .i64 (atF dc.reverse) (.int .i64 n))(h1:(cW (atF dc.reverse) (.int .i64 n))=true)(h2:eP (atF dc.reverse) (.int .i64 n)=some (dcE y0 y1 y2 y3 y4 y5))(h3:bFu dl sk dc [y0,y1,y2,y3,y4,y5] r6)(An:r0=(r6 != bib)):FV Tp 158 [(pI n),(.rp [(PV.rp (aF dl sk dc) 0)] 0),(.rp [(aA bib),(aA tm)] 0)] base (pB r0) []:=by
 subst An;exact FV.fi func158 [.x (PV.rp (aF dl sk dc) 0),.x (PV.rp (aF dl sk dc) 0),.x (.mp (atF dc.reverse)),bT,.x (dcE y0 y1 y2 y3 y4 y5),.c (pI r6) [],.x (aA bib)] (gr (aA bib) (gc (fk 0 (h3 _) rfl) (gc h2 (gc h1 (gc h0 (gr (.mp (atF dc.reverse)) (gr (PV.rp (aF dl sk dc) 0) (gr (PV.rp (aF dl sk dc) 0) gn))))))))
theorem bTt(An:r0=(n == m)):FV Tp 138 [(pI n),(.rp [(aA m)] 0)] base (pB r0) []:=by
 subst An;exact FV.fi func138 [.x (aA m)] (gr (aA m) gn)
abbrev bFv(dl:Int)(sk dc:Lqq):PV := .rp (aF dl sk dc) 0
abbrev aPz(dl:Int)(sk dc:Lqq)(bib tm n:Int)(b:Bool):Prop:=∀ base:Nat,FV Tp 158 [.p (aA n),.rp [bFv dl sk dc] 0,.rp [aA bib,aA tm] 0] base (pB b) []
theorem aHz(n m:Int){base:Nat}:FV Tp 138 [.p (aA n),.rp [aA m] 0] base (pB (n == m)) []:=bTt rfl
def gC(l:List Int)(dl:Int)(sk:Lqq)(dc:Lqq)(bib:Int)(tm:Int)(i:Nat):St:=⟨fr 19 [(0,(.own 0)),(1,(.fn 158 [] [(.rp [(PV.rp (aF dl sk dc) 0)] 0),(.rp [(aA bib),(aA tm)] 0)])),(7,(pI (l.length:Int))),(8,(pI (i:Int)))],[some (.row 3 l.length (l.map aA))]⟩
theorem bLi(hl0:aG Tp 1 nB (gC l dl sk dc bib tm 0) (.exit 0) (gC l dl sk dc bib tm Av)):FMM Tp 163 [(.own 0),(.fn 158 [] [(.rp [(PV.rp (aF dl sk dc) 0)] 0),(.rp [(aA bib),(aA tm)] 0)])] [some (.row 3 l.length (l.map aA))] (pI (-1)) [some (.row 3 l.length (l.map aA))]:=FMM.fi 1 gE func163 [hl0.k 6 (gZ cj)] (gc hl0.code gn)
theorem bLj(hl0:aG Tp 1 nB (gC l dl sk dc bib tm 0) .ret (cQ (gC l dl sk dc bib tm Av) [(4,(pI (Av:Int)))])):FMM Tp 163 [(.own 0),(.fn 158 [] [(.rp [(PV.rp (aF dl sk dc) 0)] 0),(.rp [(aA bib),(aA tm)] 0)])] [some (.row 3 l.length (l.map aA))] (pI (Av:Int)) [some (.row 3 l.length (l.map aA))]:=FMM.fi 1 gE func163 [hl0.k 6 (gZ cj)] (gc hl0.code gn)
section
variable(h0:(i:Int)<(l.length:Int))(h1:l[i]? = some Ag)(h2:aPz dl sk dc bib tm Ag Bj)
include h0 h1 h2
theorem aQa(h3:Bj=true):aC Tp 1 nB (gC l dl sk dc bib tm i) .ret (cQ (gC l dl sk dc bib tm i) [(4,(pI (i:Int)))]):=aC.fi (gZ c8) [bT,.x (aA Ag),.c (pB Bj) [],bT] (gc h3 (gc (fk 1 (h2 _) rfl) (gc (atm aA h1) (gc (cF (i:=(i:Int)) (B4 _) h1) (g0 h0)))))
theorem aQb(h3:Bj=false)(h4:co i)(Ak:i'=(i+1)):aC Tp 1 nB (gC l dl sk dc bib tm i) .normal (gC l dl sk dc bib tm i'):=by
 subst Ak;exact aC.fi (gZ cj) [bT,.x (aA Ag),.c (pB Bj) [],bF] (gc h4 (gc h3 (gc (fk 1 (h2 _) rfl) (gc (atm aA h1) (gc (cF (i:=(i:Int)) (B4 _) h1) (g0 h0))))))
end
theorem aQc(h0:(l.length:Int)≤(i:Int)):aC Tp 1 nB (gC l dl sk dc bib tm i) (.exit 0) (gC l dl sk dc bib tm i):=aC.fi (gZ cj) [bF] (gc (aS h0) gn)
abbrev bLk(l:List Int)(dl:Int)(sk:Lqq)(dc:Lqq)(bib:Int)(tm:Int)(i:Int):Prop:=FMM Tp 163 [.own 0,(.fn 158 [] [(.rp [(PV.rp (aF dl sk dc) 0)] 0),(.rp [(aA bib),(aA tm)] 0)])] [some (.row 3 l.length (l.map aA))] (pI i) [some (.row 3 l.length (l.map aA))]
def nC(dl:Int)(sk:Lqq)(dc:Lqq)(bib:Int)(tm:Int)(cn:Nat)(cc:List PV)(i:Nat)(j:Nat):St:=⟨fr 42 [(0,(.own 0)),(1,(.fn 158 [] [(.rp [(PV.rp (aF dl sk dc) 0)] 0),(.rp [(aA bib),(aA tm)] 0)])),(4,(.p dZ)),(5,(pI (i:Int))),(6,(pI (j:Int)))],[some (.row 3 cn cc)]⟩
theorem bTu{Dw:List PV}(h0:bLk l dl sk dc bib tm (i0:Int))(h1:(i0:Int)≠(-1:Int))(h2:co i0)(Cd:aG Tp 1 rB (nC dl sk dc bib tm l.length (l.map aA) i0 (i0+1)) (.exit 0) (nC dl sk dc bib tm Cs.length (Cs.map aA) B0 N6))(h4:0≤(B0:Int)∧(B0:Int)≤(Cs.length:Int)∧(Cs.length:Int)≤(Cs.length:Int))(h5:(B0*1)+(Cs.length-B0)≤(Cs.map aA).length)(h6:0≤(0:Int)∧(0:Int)≤(B0:Int)∧(B0:Int)≤(Cs.length:Int))(Di:Dw=((((Cs.map aA).take (B0*1)++List.replicate (Cs.length-B0) (PV.v (.int .i64 0))++(Cs.map aA).drop ((B0*1)+(List.replicate (Cs.length-B0) (PV.v (.int .i64 0))).length)).drop 0).take (B0*(((Cs.map aA).take (B0*1)++List.replicate (Cs.length-B0) (PV.v (.int .i64 0))++(Cs.map aA).drop ((B0*1)+(List.replicate (Cs.length-B0) (PV.v (.int .i64 0))).length)).length / Cs.length)))):FMM Tp 137 [(.own 0),(.fn 158 [] [(.rp [(PV.rp (aF dl sk dc) 0)] 0),(.rp [(aA bib),(aA tm)] 0)])] [some (.row 3 l.length (l.map aA))] (.p (.sl B0 Dw)) [some .dead]:=by
 subst Di;have k1:=mq [0] 1 h0;exact FMM.fi 1 ⟨[],[],[0],[]⟩ func137 [k1.o,bF,Cd.k 4 (gZ ck)] (gc h6 (gc h5 (gc h4 (gc Cd.code (gc h2 (gc (bI h1) (gc k1 gn)))))))
theorem bTv(h0:bLk l dl sk dc bib tm (-1)):FMM Tp 137 [(.own 0),(.fn 158 [] [(.rp [(PV.rp (aF dl sk dc) 0)] 0),(.rp [(aA bib),(aA tm)] 0)])] [some (.row 3 l.length (l.map aA))] (.p (aH l)) [some .dead]:=have k1:=mq [0] 1 h0;FMM.fi 1 ⟨[],[],[0],[]⟩ func137 [k1.o,bT] (gc bFt (gc k1 gn))
section
variable(h0:(j:Int)<(c.length:Int))(h1:c[j]? = some Ag)(h2:aPz dl sk dc bib tm Ag Bj)
include h0 h1 h2
theorem bAk{P4:Int}(h3:Bj=false)(h4:c[i]? = some P4)(h5:(i*1)<(c.map aA).length)(h6:co i)(h7:co j)(K0:c'.length=c.length)(K5:c'.map aA=((c.map aA).set (i*1) (aA Ag)))(Ak:i'=(i+1))(D7:j'=(j+1)):aC Tp 1 rB (nC dl sk dc bib tm c.length (c.map aA) i j) .normal (nC dl sk dc bib tm c'.length (c'.map aA) i' j'):=by
 subst Ak D7;rw [K0,K5];exact aC.fi (gZ ck) [bT,.x (aA Ag),.c (pB Bj) [],bT] (gc h7 (gc h6 (gc h5 (gc (cF (i:=(i:Int)) (B4 _) h4) (gc (cE h3) (gc (fk 1 (h2 _) rfl) (gc (atm aA h1) (gc (cF (i:=(j:Int)) (B4 _) h1) (g0 h0)))))))))
theorem bAl(h3:Bj=true)(h4:co j)(D7:j'=(j+1)):aC Tp 1 rB (nC dl sk dc bib tm c.length (c.map aA) i j) .normal (nC dl sk dc bib tm c.length (c.map aA) i j'):=by
 subst D7;exact aC.fi (gZ ck) [bT,.x (aA Ag),.c (pB Bj) [],bF] (gc h4 (gc (aW h3) (gc (fk 1 (h2 _) rfl) (gc (atm aA h1) (gc (cF (i:=(j:Int)) (B4 _) h1) (g0 h0))))))
end
theorem bAm(h0:(c.length:Int)≤(j:Int)):aC Tp 1 rB (nC dl sk dc bib tm c.length (c.map aA) i j) (.exit 0) (nC dl sk dc bib tm c.length (c.map aA) i j):=aC.fi (gZ ck) [bF] (gc (aS h0) gn)
def gD(l:List Int)(m:Int)(i:Nat):St:=⟨fr 19 [(0,(.own 0)),(1,(.fn 138 [] [(.rp [(aA m)] 0)])),(7,(pI (l.length:Int))),(8,(pI (i:Int)))],[some (.row 3 l.length (l.map aA))]⟩
theorem bLl(hl0:aG Tp 1 nB (gD l m 0) (.exit 0) (gD l m Av)):FMM Tp 163 [(.own 0),(.fn 138 [] [(.rp [(aA m)] 0)])] [some (.row 3 l.length (l.map aA))] (pI (-1)) [some (.row 3 l.length (l.map aA))]:=FMM.fi 1 gE func163 [hl0.k 6 (gZ cj)] (gc hl0.code gn)
theorem bLm(hl0:aG Tp 1 nB (gD l m 0) .ret (cQ (gD l m Av) [(4,(pI (Av:Int)))])):FMM Tp 163 [(.own 0),(.fn 138 [] [(.rp [(aA m)] 0)])] [some (.row 3 l.length (l.map aA))] (pI (Av:Int)) [some (.row 3 l.length (l.map aA))]:=FMM.fi 1 gE func163 [hl0.k 6 (gZ cj)] (gc hl0.code gn)
section
variable(h0:(i:Int)<(l.length:Int))(h1:l[i]? = some Ag)
include h0 h1
theorem aQd(h2:(Ag == m)=true):aC Tp 1 nB (gD l m i) .ret (cQ (gD l m i) [(4,(pI (i:Int)))]):=aC.fi (gZ c8) [bT,.x (aA Ag),.c (pB (Ag == m)) [],bT] (gc h2 (gc (fk 1 (aHz Ag m) rfl) (gc (atm aA h1) (gc (cF (i:=(i:Int)) (B4 _) h1) (g0 h0)))))
theorem aQe(h2:(Ag == m)=false)(h3:co i)(Ak:i'=(i+1)):aC Tp 1 nB (gD l m i) .normal (gD l m i'):=by
 subst Ak;exact aC.fi (gZ cj) [bT,.x (aA Ag),.c (pB (Ag == m)) [],bF] (gc h3 (gc h2 (gc (fk 1 (aHz Ag m) rfl) (gc (atm aA h1) (gc (cF (i:=(i:Int)) (B4 _) h1) (g0 h0))))))
end
theorem aQf(h0:(l.length:Int)≤(i:Int)):aC Tp 1 nB (gD l m i) (.exit 0) (gD l m i):=aC.fi (gZ cj) [bF] (gc (aS h0) gn)
abbrev bLn(l:List Int)(m:Int)(i:Int):Prop:=FMM Tp 163 [.own 0,(.fn 138 [] [(.rp [(aA m)] 0)])] [some (.row 3 l.length (l.map aA))] (pI i) [some (.row 3 l.length (l.map aA))]
def nD(m:Int)(cn:Nat)(cc:List PV)(i:Nat)(j:Nat):St:=⟨fr 42 [(0,(.own 0)),(1,(.fn 138 [] [(.rp [(aA m)] 0)])),(4,(.p dZ)),(5,(pI (i:Int))),(6,(pI (j:Int)))],[some (.row 3 cn cc)]⟩
theorem bTw{Dw:List PV}(h0:bLn l m (i0:Int))(h1:(i0:Int)≠(-1:Int))(h2:co i0)(Cd:aG Tp 1 rB (nD m l.length (l.map aA) i0 (i0+1)) (.exit 0) (nD m Cs.length (Cs.map aA) B0 N6))(h4:0≤(B0:Int)∧(B0:Int)≤(Cs.length:Int)∧(Cs.length:Int)≤(Cs.length:Int))(h5:(B0*1)+(Cs.length-B0)≤(Cs.map aA).length)(h6:0≤(0:Int)∧(0:Int)≤(B0:Int)∧(B0:Int)≤(Cs.length:Int))(Di:Dw=((((Cs.map aA).take (B0*1)++List.replicate (Cs.length-B0) (PV.v (.int .i64 0))++(Cs.map aA).drop ((B0*1)+(List.replicate (Cs.length-B0) (PV.v (.int .i64 0))).length)).drop 0).take (B0*(((Cs.map aA).take (B0*1)++List.replicate (Cs.length-B0) (PV.v (.int .i64 0))++(Cs.map aA).drop ((B0*1)+(List.replicate (Cs.length-B0) (PV.v (.int .i64 0))).length)).length / Cs.length)))):FMM Tp 137 [(.own 0),(.fn 138 [] [(.rp [(aA m)] 0)])] [some (.row 3 l.length (l.map aA))] (.p (.sl B0 Dw)) [some .dead]:=by
 subst Di;have k1:=mq [0] 1 h0;exact FMM.fi 1 ⟨[],[],[0],[]⟩ func137 [k1.o,bF,Cd.k 4 (gZ ck)] (gc h6 (gc h5 (gc h4 (gc Cd.code (gc h2 (gc (bI h1) (gc k1 gn)))))))
theorem bTx(h0:bLn l m (-1)):FMM Tp 137 [(.own 0),(.fn 138 [] [(.rp [(aA m)] 0)])] [some (.row 3 l.length (l.map aA))] (.p (aH l)) [some .dead]:=have k1:=mq [0] 1 h0;FMM.fi 1 ⟨[],[],[0],[]⟩ func137 [k1.o,bT] (gc bFt (gc k1 gn))
section
variable(h0:(j:Int)<(c.length:Int))(h1:c[j]? = some Ag)
include h0 h1
theorem bAn{C8:Int}(h2:(Ag == m)=false)(h3:c[i]? = some C8)(h4:(i*1)<(c.map aA).length)(h5:co i)(h6:co j)(K0:c'.length=c.length)(K5:c'.map aA=((c.map aA).set (i*1) (aA Ag)))(Ak:i'=(i+1))(D7:j'=(j+1)):aC Tp 1 rB (nD m c.length (c.map aA) i j) .normal (nD m c'.length (c'.map aA) i' j'):=by
 subst Ak D7;rw [K0,K5];exact aC.fi (gZ ck) [bT,.x (aA Ag),.c (pB (Ag == m)) [],bT] (gc h6 (gc h5 (gc h4 (gc (cF (i:=(i:Int)) (B4 _) h3) (gc (cE h2) (gc (fk 1 (aHz Ag m) rfl) (gc (atm aA h1) (gc (cF (i:=(j:Int)) (B4 _) h1) (g0 h0)))))))))
theorem bAo(h2:(Ag == m)=true)(h3:co j)(D7:j'=(j+1)):aC Tp 1 rB (nD m c.length (c.map aA) i j) .normal (nD m c.length (c.map aA) i j'):=by
 subst D7;exact aC.fi (gZ ck) [bT,.x (aA Ag),.c (pB (Ag == m)) [],bF] (gc h3 (gc (aW h2) (gc (fk 1 (aHz Ag m) rfl) (gc (atm aA h1) (gc (cF (i:=(j:Int)) (B4 _) h1) (g0 h0))))))
end
theorem bAp(h0:(c.length:Int)≤(j:Int)):aC Tp 1 rB (nD m c.length (c.map aA) i j) (.exit 0) (nD m c.length (c.map aA) i j):=aC.fi (gZ ck) [bF] (gc (aS h0) gn)
end
section
structure yR (p:Int→Bool) (l:List Int) (j:Nat) (x:List Int × Nat):Prop where
 len:x.1.length=l.length
 le:x.2<j
 kept:x.1.take x.2=(l.take j).filter fun n => !p n
 rest:x.1.drop j=l.drop j
theorem yR.skip{p:Int→Bool}{l:List Int}{j:Nat}{x:List Int × Nat}(h:yR p l j x)(hj:j<l.length){n:Int}(hn:x.1[j]? = some n)(hp:p n=true):yR p l (j+1) x:=by
 have hl:l[j]? = some n:=by
  have:=congrArg (·[0]?) h.rest
  simp only [List.getElem?_drop,Nat.add_zero] at this
  rw [← this];exact hn
 refine ⟨h.len,by have:=h.le;omega,?_,?_⟩
 ·rw [h.kept,List.take_add_one,hl]
  simp [sC,hp]
 ·rw [← List.drop_drop,h.rest,List.drop_drop]
theorem yR.keep{p:Int→Bool}{l:List Int}{j:Nat}{x:List Int × Nat}(h:yR p l j x)(hj:j<l.length){n:Int}(hn:x.1[j]? = some n)(hp:p n=false):yR p l (j+1) (x.1.set x.2 n,x.2+1):=by
 have hl:l[j]? = some n:=by
  have:=congrArg (·[0]?) h.rest
  simp only [List.getElem?_drop,Nat.add_zero] at this
  rw [← this];exact hn
 have hle:=h.le;have hlen:=h.len;refine ⟨by simp [h.len],by simpa using hle,?_,?_⟩
 ·show (x.1.set x.2 n).take (x.2+1)=_
  rw [List.take_add_one,List.take_set_of_le (dH _),h.kept,bHq (by omega),List.take_add_one,hl]
  simp [sC,hp]
 ·show (x.1.set x.2 n).drop (j+1)=_
  rw [List.drop_set_of_lt (by omega),← List.drop_drop,h.rest,List.drop_drop]
theorem yR.start{p:Int→Bool}{l:List Int}{i:Nat}{n:Int}(hi:l[i]? = some n)(hp:p n=true)(hb:∀ m∈l.take i,p m=false):yR p l (i+1) (l,i):=by
 refine ⟨rfl,Nat.lt_succ_self _,?_,rfl⟩;show l.take i=_;rw [List.take_add_one,hi];simp only [sC];rw [List.filter_eq_self.2 fun m hm=>by simp [hb m hm]]
 simp [hp]
theorem yD{p:Int→Bool}{l:List Int}{i:Nat}(h:l.findIdx? p=some i):∀ m∈l.take i,p m=false:=fun m hm=>by
 obtain ⟨hi,h1,h2⟩:=List.findIdx?_eq_some_iff_getElem.1 h;obtain ⟨j,hj,rfl⟩:=List.getElem_of_mem hm;rw [List.getElem_take];rw [mP] at hj
 have:=h2 j (by omega)
 simpa using this

theorem bLg{l:List Int}{dl:Int}{sk dc:Lqq}{bib tm:Int}(hl:l.length≤1000){p:Int→Bool}(hp:∀ n∈l,aPz dl sk dc bib tm n (p n)) :
  (∃ i n,l[i]? = some n∧l.findIdx? p=some i∧p n=true∧bLk l dl sk dc bib tm (i:Int))∨(l.any p=false∧bLk l dl sk dc bib tm (-1)):=by
 rcases aG.find (P:=Tp) (k:=1) (b:=(sub (cd Tryz.f163) cf)) (fun i=>gC l dl sk dc bib tm i) (fun i _=>cQ (gC l dl sk dc bib tm i) [(4,.p (aA (i:Int)))]) (gC l dl sk dc bib tm l.length) .ret (.exit 0) (by simp) (by simp) p l
  (fun i x hx hq=>aQb (by have:=bA hx;omega) hx (hp x (Bi hx)) hq (aN (by have:=bA hx;omega)) rfl)
  (fun i x hx hq=>aQa (by have:=bA hx;omega) hx (hp x (Bi hx)) hq)
  (aQc (by omega)) with ⟨i,x,h1,h2,h3,h4⟩ | ⟨h1,h2,h3⟩
 ·exact .inl ⟨i,x,h1,h2,h3,bLj h4⟩
 ·exact .inr ⟨h2,bLi h3⟩
theorem bTr{l:List Int}{dl:Int}{sk dc:Lqq}{bib tm:Int}(hl:l.length≤1000){p:Int→Bool}(hp:∀ n∈l,aPz dl sk dc bib tm n (p n)) :
  FMM Tp 137 [.own 0,.fn 158 [] [.rp [bFv dl sk dc] 0,.rp [aA bib,aA tm] 0]] [some (.row 3 l.length (l.map aA))] (.p (aH (l.filter fun n => !p n))) [some .dead]:=by
 rcases bLg hl hp with ⟨i,n,h1,h2,h3,h4⟩ | ⟨h1,h2⟩
 ·have hi:=bA h1
  obtain ⟨d,hm⟩:∃ d,i+1+d=l.length:=⟨l.length-(i+1),by omega⟩
  obtain ⟨⟨c,k⟩,hI,hL⟩:=aG.ex (P:=Tp) (k:=1) (b:=(sub (cd Tryz.f137) bw)) (e := .exit 0) (fun j (x:List Int × Nat)=>nC dl sk dc bib tm x.1.length (x.1.map aA) x.2 (i+1+j)) (fun x=>nC dl sk dc bib tm x.1.length (x.1.map aA) x.2 l.length) (fun j x=>yR p l (i+1+j) x∧∀ n∈x.1,n∈l) (by simp) d
   (fun j x hj hx=>by
    obtain ⟨hI,hs⟩:=hx;have hlt:i+1+j<x.1.length:=by rw [hI.len];omega
    have hle:=hI.le;have hlen:=hI.len;obtain ⟨y,hy⟩:∃ y,x.1[i+1+j]? = some y:=⟨_,Aq hlt⟩;have hyl:=hs y (Bi hy);cases hq:p y with
    | true=>exact ⟨x,⟨hI.skip (by omega) hy hq,hs⟩,bAl (by omega) hy (hp y hyl) hq (aN (by omega)) rfl⟩
    | false =>
     obtain ⟨z,hz⟩:∃ z,x.1[x.2]? = some z:=⟨_,Aq (by omega)⟩
     refine ⟨_,⟨hI.keep (by omega) hy hq,fun n hn => ?_⟩,bAk (c:=x.1) (c':=x.1.set x.2 y) (by omega) hy (hp y hyl) hq hz (by rw [eI];omega) (aN (by omega)) (aN (by omega)) (by simp) (by rw [List.map_set,Nat.mul_one]) rfl rfl⟩
     rcases List.mem_or_eq_of_mem_set hn with h | rfl
     ·exact hs n h
     ·exact hyl)
   (fun x hx=>by
    have:=bAm (dl:=dl) (sk:=sk) (dc:=dc) (bib:=bib) (tm:=tm) (c:=x.1) (i:=x.2) (j:=l.length) (by rw [hx.1.len];omega)
    rw [show i+1+d=l.length from hm];exact this)
   (acc:=(l,i)) ⟨yR.start h1 h3 (yD h2),fun n h=>h⟩
  obtain ⟨hI,_⟩:=hI;have hlen:=hI.len;have hle:=hI.le;have hk:=hI.kept;simp only [hm,List.take_length] at hlen hle hk
  have fin:=bTu (l:=l) (Cs:=c) (B0:=k) (N6:=l.length) (Dw:=(c.take k).map aA) h4 (by omega) (aN (by omega)) hL ⟨by omega,by omega,by omega⟩ (by rw [eI];omega) ⟨by omega,by omega,by omega⟩ (by
   rw [List.drop_zero,Nat.mul_one,List.length_replicate];have Fz:(((c.map aA).take k)++List.replicate (c.length-k) (PV.v (.int .i64 0))++(c.map aA).drop (k+(c.length-k))).length=c.length:=by
    simp only [lT,mP,eI,List.length_replicate,bHu];omega
   rw [Fz,Nat.div_self (by omega),Nat.mul_one,List.append_assoc,List.take_append_of_le_length (by rw [mP,eI];omega),List.take_take,Nat.min_self,List.map_take])
  rw [← hk];have e:aH (c.take k) = .sl k ((c.take k).map aA):=by
   show PV.sl (c.take k).length _=_;rw [mP,Nat.min_eq_left (by omega)]
  rw [e];exact fin
 ·have:(l.filter fun n => !p n)=l:=List.filter_eq_self.2 fun n hn=>by
   have:=List.any_eq_false.1 h1 n hn;simpa using this
  rw [this];exact bTv h2

theorem bLh{l:List Int}{m:Int}(hl:l.length≤1000){p:Int→Bool}(hp:∀ n∈l,p n=(n == m)) :
  (∃ i n,l[i]? = some n∧l.findIdx? p=some i∧p n=true∧bLn l m (i:Int))∨(l.any p=false∧bLn l m (-1)):=by
 rcases aG.find (P:=Tp) (k:=1) (b:=(sub (cd Tryz.f163) cf)) (fun i=>gD l m i) (fun i _=>cQ (gD l m i) [(4,.p (aA (i:Int)))]) (gD l m l.length) .ret (.exit 0) (by simp) (by simp) p l
  (fun i x hx hq=>aQe (by have:=bA hx;omega) hx (by rw [← hp x (Bi hx)];exact hq) (aN (by have:=bA hx;omega)) rfl)
  (fun i x hx hq=>aQd (by have:=bA hx;omega) hx (by rw [← hp x (Bi hx)];exact hq))
  (aQf (by omega)) with ⟨i,x,h1,h2,h3,h4⟩ | ⟨h1,h2,h3⟩
 ·exact .inl ⟨i,x,h1,h2,h3,bLm h4⟩
 ·exact .inr ⟨h2,bLl h3⟩
theorem bFs{l:List Int}{m:Int}(hl:l.length≤1000){p:Int→Bool}(hp:∀ n∈l,p n=(n == m)) :
  FMM Tp 137 [.own 0,.fn 138 [] [.rp [aA m] 0]] [some (.row 3 l.length (l.map aA))] (.p (aH (l.filter fun n => !p n))) [some .dead]:=by
 rcases bLh hl hp with ⟨i,n,h1,h2,h3,h4⟩ | ⟨h1,h2⟩
 ·have hi:=bA h1
  obtain ⟨d,hm⟩:∃ d,i+1+d=l.length:=⟨l.length-(i+1),by omega⟩
  obtain ⟨⟨c,k⟩,hI,hL⟩:=aG.ex (P:=Tp) (k:=1) (b:=(sub (cd Tryz.f137) bw)) (e := .exit 0) (fun j (x:List Int × Nat)=>nD m x.1.length (x.1.map aA) x.2 (i+1+j)) (fun x=>nD m x.1.length (x.1.map aA) x.2 l.length) (fun j x=>yR p l (i+1+j) x∧∀ n∈x.1,n∈l) (by simp) d
   (fun j x hj hx=>by
    obtain ⟨hI,hs⟩:=hx;have hlt:i+1+j<x.1.length:=by rw [hI.len];omega
    have hle:=hI.le;have hlen:=hI.len;obtain ⟨y,hy⟩:∃ y,x.1[i+1+j]? = some y:=⟨_,Aq hlt⟩;have hyl:=hs y (Bi hy);cases hq:p y with
    | true=>exact ⟨x,⟨hI.skip (by omega) hy hq,hs⟩,bAo (by omega) hy (by rw [← hp y hyl];exact hq) (aN (by omega)) rfl⟩
    | false =>
     obtain ⟨z,hz⟩:∃ z,x.1[x.2]? = some z:=⟨_,Aq (by omega)⟩
     refine ⟨_,⟨hI.keep (by omega) hy hq,fun n hn => ?_⟩,bAn (c:=x.1) (c':=x.1.set x.2 y) (by omega) hy (by rw [← hp y hyl];exact hq) hz (by rw [eI];omega) (aN (by omega)) (aN (by omega)) (by simp) (by rw [List.map_set,Nat.mul_one]) rfl rfl⟩
     rcases List.mem_or_eq_of_mem_set hn with h | rfl
     ·exact hs n h
     ·exact hyl)
   (fun x hx=>by
    have:=bAp (m:=m) (c:=x.1) (i:=x.2) (j:=l.length) (by rw [hx.1.len];omega)
    rw [show i+1+d=l.length from hm];exact this)
   (acc:=(l,i)) ⟨yR.start h1 h3 (yD h2),fun n h=>h⟩
  obtain ⟨hI,_⟩:=hI;have hlen:=hI.len;have hle:=hI.le;have hk:=hI.kept;simp only [hm,List.take_length] at hlen hle hk
  have fin:=bTw (l:=l) (Cs:=c) (B0:=k) (N6:=l.length) (Dw:=(c.take k).map aA) h4 (by omega) (aN (by omega)) hL ⟨by omega,by omega,by omega⟩ (by rw [eI];omega) ⟨by omega,by omega,by omega⟩ (by
   rw [List.drop_zero,Nat.mul_one,List.length_replicate];have Fz:(((c.map aA).take k)++List.replicate (c.length-k) (PV.v (.int .i64 0))++(c.map aA).drop (k+(c.length-k))).length=c.length:=by
    simp only [lT,mP,eI,List.length_replicate,bHu];omega
   rw [Fz,Nat.div_self (by omega),Nat.mul_one,List.append_assoc,List.take_append_of_le_length (by rw [mP,eI];omega),List.take_take,Nat.min_self,List.map_take])
  rw [← hk];have e:aH (c.take k) = .sl k ((c.take k).map aA):=by
   show PV.sl (c.take k).length _=_;rw [mP,Nat.min_eq_left (by omega)]
  rw [e];exact fin
 ·have:(l.filter fun n => !p n)=l:=List.filter_eq_self.2 fun n hn=>by
   have:=List.any_eq_false.1 h1 n hn;simpa using this
  rw [this];exact bTx h2
end
section
open Go.RowKit Go.Lib Go.Shelf
theorem bTp{n:Nat}{x:PV}{r:List PV}{Lo:Nat}{Dw:List PV}(h0:(x::r).length=n*1∧0+n≤1000000)(Kz:Lo=(0+n))(Di:Dw=(x::r)){base:Nat}:FV Tp 107 [(.p (.sl n (x::r)))] base (.own base) [(base,(.row 3 Lo Dw))]:=by
 subst Kz Di;exact FV.fi func107 [] (gc h0 gn)
set_option maxHeartbeats 1000000 in
theorem bLf(n c:Nat)(w:World):Calls Tp 107 #[.slice none n c] w fun e w'=>e = .returned (.slice none 0 0)∧w'=w:=by
 have Tu:∀ (w:World) (a:Option Addr) (n c n' c':Nat),(binOp .eql 31 (.slice a n c) (.slice none n' c')).run Tp w = .ok (.bool a.isNone) w:=fun w a n c n' c'=>Lib.run_eql_slice_nil w _ _ a n c n' c' Tryz.underlying31
 go_enter func107,Tryz.ntmps107
 go_wp2
 go_ret
 exact ⟨rfl,rfl⟩
theorem P3:(Tryz.prog.info? 3).map (fun i=>(i.zero,i.size,i.bytes))=some (some (.int .i64 0),1,8):=by kernel_rfl
set_option maxHeartbeats 2000000 in
theorem bFr(a:Addr)(c:Nat)(w:World):Calls Tp 107 #[.slice (some a) 0 c] w fun e w'=>∃ v',e = .returned v'∧w'.ownsRow w.heap.size 3 1 v' 0 []∧Below w.heap.size w w':=by
 obtain ⟨i0,hi,Lb,Eg,Ld⟩:=info_parts P3;have Tu:∀ (w:World) (a:Option Addr) (n c n' c':Nat),(binOp .eql 31 (.slice a n c) (.slice none n' c')).run Tp w = .ok (.bool a.isNone) w:=fun w a n c n' c'=>Lib.run_eql_slice_nil w _ _ a n c n' c' Tryz.underlying31
 go_enter func107,Tryz.ntmps107
 go_wp2_with (at_builtin;refine wpList_append_own _ rfl _ _ 31 rfl w.heap.size 3 i0 (.int .i64 0) 1 8 Tryz.underlying31 hi Lb Eg Ld rfl (by decide) _ _ _ rfl (World.ownsRow_made w #[] 0 (dH _) (Nat.zero_le _) rfl) a 0 c [] rfl rfl (by intro j u hj;simp at hj) (by intro u hu;cases hu) (by unfold maxLen;omega) (by omega) (by simp) ?_)
 intro v' w1 hown hgrow hnil
 go_wp2
 go_ret
 refine ⟨v',rfl,by simpa using hown,?_⟩
 exact ((Below.refl _ w).alloc (dH _) _).grown hgrow (by simp) (by intro k hk;simp [Value.ownBlock] at hk;omega)
theorem bAj{base:Nat}:FV Tp 107 [.p (.sl 0 [])] base (.own base) [(base,.row 3 0 [])]:=aWz (rX (show (Tryz.prog.info? 3).map (fun i=>i.size)=some 1 by kernel_rfl)) fun p c w=>by
 cases p with
 | none =>
  refine (bLf 0 c w).mono ?_;rintro e w' ⟨rfl,rfl⟩;exact ⟨_,rfl,World.ownsRow_nil _ _ _ _,Below.refl _ _⟩
 | some a=>exact bFr a c w
theorem bTq(l:List Int)(hl:l.length≤1000){base:Nat}:FV Tp 107 [.p (aH l)] base (.own base) [(base,.row 3 l.length (l.map aA))]:=by
 cases l with
 | nil=>exact bAj
 | cons x l=>exact bTp (n:=(x::l).length) (x:=aA x) (r:=l.map aA) ⟨by simp,by simp at hl ⊢;omega⟩ (by simp) rfl
end
section
variable {Em:Bool}{mn mx N5 E1 n200 Aa Ab:Int}{T202:Lqb}{x Bs:List Int}{i aln chn Jf:Nat}
variable {dl:Int}{sk dc:Lqq}

theorem aHw:0≤(1:Int)∧(1:Int)<2:=by first | decide | simp
theorem aHx:0≤(0:Int)∧(0:Int)<2:=by first | decide | simp
abbrev bWe(l:List Int)(dl:Int)(sk dc:Lqq)(bib tm:Int)(o:List Int):Prop:=FMM Tp 137 [.own 0,.fn 158 [] [.rp [bFv dl sk dc] 0,.rp [aA bib,aA tm] 0]] [some (.row 3 l.length (l.map aA))] (.p (aH o)) [some .dead]
def chE(x:Int × Bool × List Int):List PV:=[aA x.1,blP x.2.1,aH x.2.2]
def nA(dl:Int)(sk:Lqq)(dc:Lqq)(aln:Nat)(alc:List PV)(i:Nat):St:=⟨fr 77 [(1,(.rp [(PV.rp (aF dl sk dc) 0)] 0)),(2,(.p dZ)),(3,(pI 0)),(4,(.p (aH (aV dl dc)))),(5,(.own 0)),(22,(.p (fS sk))),(23,(pI (sk.length:Int))),(24,(pI (i:Int)))],[some (.row 232 aln alc)]⟩
theorem bTo{Jy:Nat}{Jz:List PV}{Ei:Nat}(h0:bV dc)(h1:((aV dl dc).length:Int)≤8)(Ct:aG Tp 0 (sub (cd Tryz.f91) bp) (nA dl sk dc 0 [] 0) (.exit 0) (nA dl sk dc Jy Jz Ei)){base:Nat}:FV Tp 91 [(.rp (aF dl sk dc) 0)] base (.tup [(.own base),(pI 0)]) [(base,(.row 232 Jy Jz))]:=have k1:=fk 0 (qV (dl:=dl) (sk:=sk) (dc:=dc) h0) rfl;FV.fi func91 [.g 3 ⟨[],[],[0],[]⟩,.x (PV.rp (aF dl sk dc) 0),k1.o,.g 2 ⟨[],[],[0],[]⟩,bF,.x (PV.rp (aF dl sk dc) 0),.x (fS sk),Ct.k 1 (gN [0,1,6,16,25,51] [0] [(5,232)])] (gc Ct.code (gr (fS sk) (gr (PV.rp (aF dl sk dc) 0) (gc (aS h1) (gc k1 (gr (PV.rp (aF dl sk dc) 0) gn))))))
def aHy(dl:Int)(sk:Lqq)(dc:Lqq)(aln:Nat)(alc:List PV)(i:Nat)(Aa:Int)(Ab:Int)(Bs:List Int)(chn:Nat)(chc:List PV)(mn:Int)(mx:Int):St:=⟨fr 77 [(1,(.rp [(PV.rp (aF dl sk dc) 0)] 0)),(2,(.p dZ)),(3,(pI 0)),(4,(.p (aH (aV dl dc)))),(5,(.own 0)),(7,(.rp [(aA Aa),(aA Ab)] 0)),(8,(.p (aH Bs))),(9,(.ptr 2 0)),(22,(.p (fS sk))),(23,(pI (sk.length:Int))),(24,(pI (i:Int))),(25,(pB (decide ((i:Int)<(sk.length:Int))))),(26,(.rp (sk.flatten.map aA) (i*2))),(27,(.p (.agg [(aA Aa),(aA Ab)]))),(28,(.p (aH (aV dl dc)))),(29,(.own 1)),(30,(.fn 158 [] [(.rp [(PV.rp (aF dl sk dc) 0)] 0),(.rp [(aA Aa),(aA Ab)] 0)])),(31,(.p (aH Bs))),(32,(.p (.agg [(aA 1099511627776),(aA 0)]))),(33,(.p (.agg [dZ,(aA 1099511627776),(aA 0)]))),(34,(.p (aH Bs))),(35,(.fn 181 [] [(.rp [(aH Bs)] 0)]))],[some (.row 232 aln alc),some .dead,some (.box 232 [(.own 3),(pI mn),(pI mx)]),some (.row 234 chn chc)]⟩
def aPw(dl:Int)(sk:Lqq)(dc:Lqq)(aln:Nat)(alc:List PV)(i:Nat)(Aa:Int)(Ab:Int)(Bs:List Int):St:=⟨fr 77 [(1,(.rp [(PV.rp (aF dl sk dc) 0)] 0)),(2,(.p dZ)),(3,(pI 0)),(4,(.p (aH (aV dl dc)))),(5,(.own 0)),(7,(.rp [(aA Aa),(aA Ab)] 0)),(8,(.p (aH Bs))),(9,(.ptr 2 0)),(22,(.p (fS sk))),(23,(pI (sk.length:Int))),(24,(pI (i:Int))),(25,(pB (decide ((i:Int)<(sk.length:Int))))),(26,(.rp (sk.flatten.map aA) (i*2))),(27,(.p (.agg [(aA Aa),(aA Ab)]))),(28,(.p (aH (aV dl dc)))),(29,(.own 1)),(30,(.fn 158 [] [(.rp [(PV.rp (aF dl sk dc) 0)] 0),(.rp [(aA Aa),(aA Ab)] 0)])),(31,(.p (aH Bs))),(32,(.p (.agg [(aA 1099511627776),(aA 0)]))),(33,(.p (.agg [dZ,(aA 1099511627776),(aA 0)]))),(34,(.p (aH Bs))),(35,(.fn 181 [] [(.rp [(aH Bs)] 0)]))],[some (.row 232 aln alc),some .dead,some (.box 232 [(.p dZ),(pI 1099511627776),(pI 0)])]⟩
theorem bAf{alc:List PV}{D1:Nat}{D2:List PV}{Fh Fl:Int}{Nc:Nat}{Nf:List PV}{i':Nat}(h0:(i:Int)<(sk.length:Int))(h1:sk[i]? = some [Aa,Ab])(h2:uni 2 sk)(h3:(aV dl dc).length≤1000)(h4:bWe (aV dl dc) dl sk dc Aa Ab Bs)(G1:aC Tp 0 (sub (cd Tryz.f91) aj) (aPw dl sk dc aln alc i Aa Ab Bs) .normal (aHy dl sk dc aln alc i Aa Ab Bs D1 D2 Fh Fl))(h6:[(.sl D1 D2),(aA Fh),(aA Fl)].length=1*3∧aln+1≤1000000)(h7:co i)(Ng:Nc=(aln+1))(Nh:Nf=(alc++[(.sl D1 D2),(aA Fh),(aA Fl)]))(Ak:i'=(i+1)):aC Tp 0 (sub (cd Tryz.f91) bp) (nA dl sk dc aln alc i) .normal (nA dl sk dc Nc Nf i'):=by
 subst Ng Nh Ak;have k1:=fk 1 (bTq (aV dl dc) h3) rfl;have k2:=mq [1] 2 h4;have k3:=fk 3 (aPy (q:=Bs)) rfl;exact aC.fi (gI [0,1,6,16,25,51] [3]) [bT,.x (.agg [(aA Aa),(aA Ab)]),.g 1 ⟨[],[0],[1],[]⟩,k1.o,k2.o,k3.o,G1.k 1 (gI be [0,1,2]),.g 0 ⟨[29],[0,2],[3],[]⟩] (gc h7 (gc h6 (gt ([(.sl D1 D2),(aA Fh),(aA Fl)].length=3) (by first | decide | simp) (gc G1 (gc k3 (gc k2 (gc k1 (gfl h2 h1 (g0 h0)))))))))
theorem bAg{alc:List PV}(h0:(sk.length:Int)≤(i:Int)):aC Tp 0 (sub (cd Tryz.f91) bp) (nA dl sk dc aln alc i) (.exit 0) (nA dl sk dc aln alc i):=aC.fi (gI [0,1,6,16,25,51] [0]) [bF] (gc (aS h0) gn)
def aPx(dl:Int)(sk:Lqq)(dc:Lqq)(aln:Nat)(alc:List PV)(i:Nat)(Aa:Int)(Ab:Int)(Bs:List Int)(chn:Nat)(chc:List PV)(mn:Int)(mx:Int):St:=⟨fr 77 [(1,(.rp [(PV.rp (aF dl sk dc) 0)] 0)),(2,(.p dZ)),(3,(pI 0)),(4,(.p (aH (aV dl dc)))),(5,(.own 0)),(7,(.rp [(aA Aa),(aA Ab)] 0)),(8,(.p (aH Bs))),(9,(.ptr 2 0)),(22,(.p (fS sk))),(23,(pI (sk.length:Int))),(24,(pI (i:Int))),(25,(pB (decide ((i:Int)<(sk.length:Int))))),(26,(.rp (sk.flatten.map aA) (i*2))),(27,(.p (.agg [(aA Aa),(aA Ab)]))),(28,(.p (aH (aV dl dc)))),(30,(.fn 158 [] [(.rp [(PV.rp (aF dl sk dc) 0)] 0),(.rp [(aA Aa),(aA Ab)] 0)])),(31,(.p (aH Bs))),(32,(.p (.agg [(aA 1099511627776),(aA 0)]))),(33,(.p (.agg [dZ,(aA 1099511627776),(aA 0)]))),(34,(.p (aH Bs))),(35,(.fn 181 [] [(.rp [(aH Bs)] 0)]))],[some (.row 232 aln alc),some .dead,some (.box 232 [(.own 5),(pI mn),(pI mx)]),some .dead,some .dead,some (.row 234 chn chc)]⟩
section
variable(h0:aDg dl sk dc (aH x) [Aa,Ab] n200 Em ([]:Lqb) T202)
include h0
theorem bAh{alc chc H9:List PV}(h1:Em=true)(h2:[(aA 1099511627776),(blP Em),(aH x)].length=1*3∧chn+1≤1000000)(h3:([(1099511627776:Int)]:List Int).length≤1000)(Ia:Jf=(chn+1))(Ib:H9=(chc++[(aA 1099511627776),(blP Em),(aH x)]))(Kx:N5=(if (1099511627776:Int)<mn then 1099511627776 else mn))(Ky:E1=(yP mx ([(1099511627776:Int)]:List Int))):aC Tp 5 (sub (cd Tryz.f91) ah) (rfO (aHy dl sk dc aln alc i Aa Ab Bs chn chc mn mx) 36 10 x) .normal (aPx dl sk dc aln alc i Aa Ab Bs Jf H9 N5 E1):=by
 subst Ia Ib Kx Ky;have k1:=mN [] 5 (oX (dl:=dl) (sk:=sk) (dc:=dc) (on:=x.length) (ol:=(x.map aA)));have k2:=mq br 13 h0;exact aC.fi (gI be [13]) [.g 2 ⟨[29],[],[4],[]⟩,.x (PV.rp (aF dl sk dc) 0),.x (.agg [(aA Aa),(aA Ab)]),.x (PV.rp (aF dl sk dc) 0),k1.o,k2.o,bT,.c (pI (yP mx ([(1099511627776:Int)]:List Int))) []] (gc aHw (gc aHx (gt (FC Tp 159 [(pI mx),(.own 15)] [(15,(.row 3 1 [(aA 1099511627776)]))] 16 (pI (yP mx ([(1099511627776:Int)]:List Int))) []) (fv (aPg mx ([(1099511627776:Int)]:List Int) h3)) (gc aHw (gc aHx (gc h2 (gt ([(aA 1099511627776),(blP Em),(aH x)].length=3) (by first | decide | simp) (gc h1 (gc k2 (gc k1 (gr (PV.rp (aF dl sk dc) 0) (gr (.agg [(aA Aa),(aA Ab)]) (gt (0+2≤[(aA Aa),(aA Ab)].length) (by first | decide | simp) (gr (PV.rp (aF dl sk dc) 0) gn))))))))))))))
theorem bAi{alc chc H9:List PV}(h1:Em=false)(h2:[(aA n200),(blP Em),(aH x)].length=1*3∧chn+1≤1000000)(h3:([n200]:List Int).length≤1000)(Ia:Jf=(chn+1))(Ib:H9=(chc++[(aA n200),(blP Em),(aH x)]))(Kx:N5=(if n200<mn then n200 else mn))(Ky:E1=(yP mx ([n200]:List Int))):aC Tp 5 (sub (cd Tryz.f91) ah) (rfO (aHy dl sk dc aln alc i Aa Ab Bs chn chc mn mx) 36 10 x) .normal (aPx dl sk dc aln alc i Aa Ab Bs Jf H9 N5 E1):=by
 subst Ia Ib Kx Ky;have k1:=mN [] 5 (oX (dl:=dl) (sk:=sk) (dc:=dc) (on:=x.length) (ol:=(x.map aA)));have k2:=mq br 13 h0;exact aC.fi (gI be [13]) [.g 2 ⟨[29],[],[4],[]⟩,.x (PV.rp (aF dl sk dc) 0),.x (.agg [(aA Aa),(aA Ab)]),.x (PV.rp (aF dl sk dc) 0),k1.o,k2.o,bF,.c (pI (yP mx ([n200]:List Int))) []] (gc aHw (gc aHx (gt (FC Tp 159 [(pI mx),(.own 15)] [(15,(.row 3 1 [(aA n200)]))] 16 (pI (yP mx ([n200]:List Int))) []) (fv (aPg mx ([n200]:List Int) h3)) (gc aHw (gc aHx (gc h2 (gt ([(aA n200),(blP Em),(aH x)].length=3) (by first | decide | simp) (gc h1 (gc k2 (gc k1 (gr (PV.rp (aF dl sk dc) 0) (gr (.agg [(aA Aa),(aA Ab)]) (gt (0+2≤[(aA Aa),(aA Ab)].length) (by first | decide | simp) (gr (PV.rp (aF dl sk dc) 0) gn))))))))))))))
end
end
section
section
variable {α:Type} {E:α→List PV} {k:Nat}
theorem aTd(hE:∀ a,(E a).length=k)(l:List α):((l.map E).flatten).length=l.length*k:=by
 induction l with
 | nil=>simp
 | cons a l ih=>rw [gY,vB,lT,hE,ih,tK,aDc];omega
theorem xB(hE:∀ a,(E a).length=k){l:List α}{i:Nat}{e:α}(h:l[i]? = some e):∃ a b,(l.map E).flatten=a++(E e++b)∧a.length=i*k:=by
 obtain ⟨hi,rfl⟩:=Bc.1 h;refine ⟨((l.take i).map E).flatten,((l.drop (i+1)).map E).flatten,?_,?_⟩
 ·have:l=l.take i++(l[i]::l.drop (i+1)):=by rw [← bDb hi,aVc]
  have e2:=congrArg (fun l=>(l.map E).flatten) this
  simp only [fL,gY,bDd,vB] at e2
  exact e2
 ·rw [aTd hE,mP];congr 1;omega
theorem bBf{l:List α}{i f:Nat}(hE:∀ a,(E a).length=k){e:α}{x:PV}(h:l[i]? = some e)(hx:(E e)[f]? = some x):((l.map E).flatten)[i*k+f]? = some x:=by
 obtain ⟨a,b,e1,e2⟩:=xB hE h;have hf:=(Bc.1 hx).1;rw [e1,← e2,aAy (by omega),Nat.add_sub_cancel_left,aAz hf]
 exact hx
theorem uC{l:List α}{i:Nat}(hE:∀ a,(E a).length=k){e:α}(h:l[i]? = some e):i*k+k≤((l.map E).flatten).length:=by
 obtain ⟨a,b,e1,e2⟩:=xB hE h;rw [e1,lT,lT,hE,e2];omega
theorem lR{l:List α}{i:Nat}(hE:∀ a,(E a).length=k){e:α}(h:l[i]? = some e){x:PV}(hx:PV.agg (E e)=x):some (.agg ((((l.map E).flatten).drop (i*k)).take k):PV)=some x:=by
 obtain ⟨a,b,e1,e2⟩:=xB hE h;rw [e1,← e2,List.drop_left,List.take_left' (hE e),hx]
theorem rC{l:List α}{i:Int}(hE:∀ a,(E a).length=k)(hk:0<k)(h0:0≤i){e:α}(h:l[i.toNat]? = some e):0≤i∧i<(l.length:Int)∧i.toNat*k<((l.map E).flatten).length:=by
 have hi:=(Bc.1 h).1;refine ⟨h0,by omega,?_⟩
 rw [aTd hE];exact Nat.mul_lt_mul_of_pos_right hi hk
end
end
section
abbrev bZ:=Int × Bool × List Int
abbrev eO:=List bZ × Int × Int
def hpE(h:eO):List PV:=[.sl h.1.length (h.1.map chE).flatten,aA h.2.1,aA h.2.2]
abbrev far:Int:=1099511627776
def chM(dl:Int)(dc:Lqq)(s0 s1:Int)(q:List Int):bZ:=(if (fF dl q dc s0 s1).2 then far else (fF dl q dc s0 s1).1,(fF dl q dc s0 s1).2,q)
def mnM(l:List bZ):Int:=l.foldl (fun m x=>if x.1<m then x.1 else m) far
def mxM(l:List bZ):Int:=l.foldl (fun m x=>if x.1 > m then x.1 else m) 0
def nW(dl:Int)(dc:Lqq)(s0 s1:Int)(o:List Int):eO:=((iQ o).map (chM dl dc s0 s1),mnM ((iQ o).map (chM dl dc s0 s1)),mxM ((iQ o).map (chM dl dc s0 s1)))
def aLj(dc:Lqq)(n:Int):Int:=match ofN dc n with
 | some x=>vQ dc x
 | none=>0
def uA(dl:Int)(dc:Lqq)(bib:Int):List Int:=(aV dl dc).filter fun n => !(aLj dc n != bib)
def bR(dl:Int)(sk dc:Lqq):List eO:=sk.map fun s=>nW dl dc (s.getD 0 0) (s.getD 1 0) (uA dl dc (s.getD 0 0))
theorem aSw(x:bZ):jA (chE x)=true:=by
 obtain ⟨a,b,l⟩:=x;show (nmP (aA a) && (nmP (blP b) && (nmP (aH l) && true)))=true;have h:nmP (aH l)=true:=by
  show jA (l.map aA)=true;exact aBi aA (fun _=>rfl) l
 rw [h];rfl
theorem yC:∀ (a b:List PV),jA (a++b)=(jA a && jA b)
 | [],b=>rfl
 | x::a,b=>by
  show (nmP x && jA (a++b))=((nmP x && jA a) && jA b);rw [yC a b,Bool.and_assoc]
theorem sA{α:Type}{E:α→List PV}(h:∀ a,jA (E a)=true):∀ l:List α,jA (l.map E).flatten=true
 | []=>rfl
 | a::l=>by rw [gY,vB,yC,h a,sA h l];rfl
theorem bLd(x:eO):jA (hpE x)=true:=by
 obtain ⟨l,a,b⟩:=x;show (jA (l.map chE).flatten && (nmP (aA a) && (nmP (aA b) && true)))=true;rw [sA aSw];rfl
def bTn(dl:Int)(sk dc:Lqq)(al:List eO)(i:Nat)(y0 y1:Int)(o:List Int)(l:List bZ):St:=aHy dl sk dc al.length (al.map hpE).flatten i y0 y1 o l.length (l.map chE).flatten (mnM l) (mxM l)
def bVr(dl:Int)(sk dc:Lqq)(al:List eO)(i:Nat)(y0 y1:Int)(o:List Int)(l:List bZ):St:=aPx dl sk dc al.length (al.map hpE).flatten i y0 y1 o l.length (l.map chE).flatten (mnM l) (mxM l)
theorem bLe(l:List bZ)(c:bZ):(l++[c]).length=l.length+1∧((l++[c]).map chE).flatten=(l.map chE).flatten++chE c∧mnM (l++[c])=(if c.1<mnM l then c.1 else mnM l)∧mxM (l++[c])=yP (mxM l) [c.1]:=by
 refine ⟨by simp,by simp,?_,?_⟩
 ·unfold mnM;rw [aBa];rfl
 ·unfold mxM;rw [aBa];rfl
theorem bAd{dl:Int}{sk dc:Lqq}(hd:bV dc){al:List eO}{i:Nat}{y0 y1:Int}(hs : -1≤y1∧y1≤360000){o:List Int}{l:List bZ}(hl:l.length+1≤1000000){x:List Int}(hx:x.length≤1000) :
  aC Tp 5 (sub (cd Tryz.f91) ah) (rfO (bTn dl sk dc al i y0 y1 o l) 36 10 x) .normal (bVr dl sk dc al i y0 y1 o (l++[chM dl dc y0 y1 x])):=by
 obtain ⟨T',_,hT⟩:=bEs (sk:=sk) hd (fun n=>aCa hx n) y0 y1 hs (T:=[]) cA.nil
 obtain ⟨e1,e2,e3,e4⟩:=bLe l (chM dl dc y0 y1 x);cases hb:(fF dl x dc y0 y1).2 with
 | true =>
  have ec:chM dl dc y0 y1 x=(far,true,x):=by unfold chM;rw [hb];rfl
  rw [hb] at hT
  rw [ec] at e1 e2 e3 e4 ⊢
  exact bAh hT rfl ⟨rfl,hl⟩ (by simp) e1 e2 e3 e4
 | false =>
  have ec:chM dl dc y0 y1 x=((fF dl x dc y0 y1).1,false,x):=by unfold chM;rw [hb];rfl
  rw [hb] at hT
  rw [ec] at e1 e2 e3 e4 ⊢
  exact bAi hT rfl ⟨rfl,hl⟩ (by simp) e1 e2 e3 e4
theorem bAe{dl:Int}{sk dc:Lqq}(hd:bV dc){al:List eO}{i:Nat}{y0 y1:Int}(hs : -1≤y1∧y1≤360000){o:List Int}(ho:o.length≤8) :
  aC Tp 0 (sub (cd Tryz.f91) aj) (aPw dl sk dc al.length (al.map hpE).flatten i y0 y1 o) .normal (bTn dl sk dc al i y0 y1 o ((iQ o).map (chM dl dc y0 y1))):=by
 have hp:(2:Nat) ^ o.length≤256:=fM (Nat.pow_le_pow_right (by omega) ho) (by decide)
 refine (aFf (P:=Tp) (k:=0) (kb:=5) (kk:=3) (g0:=⟨[],[3],[],[(102000,234)]⟩) (g1:=⟨[],[5],[],[]⟩) (aPw dl sk dc al.length (al.map hpE).flatten i y0 y1 o)
  (fun pre=>bTn dl sk dc al i y0 y1 o (pre.map (chM dl dc y0 y1))) (fun pre l=>bVr dl sk dc al i y0 y1 o ((pre++[l]).map (chM dl dc y0 y1))) (fun _ _=>⟨[],[]⟩) _ [] (fun _ _=>false)
  (cc := sub (cd Tryz.f91) [1, 1, 1, 1, 0, 1, 0, 0, 1, 1, 0, 0, 1, 1, 1, 0, 1, 0]) (gi := 35) (p1 := 36) (d := 10) (id := 11) (ty := 31) (pos := "outcome.go:71") (body := sub (cd Tryz.f91) [1, 1, 1, 1, 0, 1, 0, 0, 1, 1, 0, 0, 1, 1, 1, 0, 1, 0, 1]) (by kernel_rfl)
  rfl (fun _=>rfl) (g := .fn 181 [] [.rp [aH o] 0]) (by rfl) (aFd o (by omega)) (fun args w=>rfl) (fun _=>rfl) (fun pre => ?_) (fun _ _=>rfl) (fun _ _=>rfl) rfl rfl (fun _=>by show 4<5;omega) (by kernel_rfl) (fun x=>rfl) (by show 3≤3;omega) rfl (by kernel_rfl) (fun pre l=>by kernel_rfl) (fun _ _ h=>by cases h) (gR:=⟨[],[],[],[]⟩) (fun pre l hpl hx=>⟨fun _ => ?_,fun h=>by cases h⟩)).1 (fun _ _ _=>rfl)
 ·show (jA (al.map hpE).flatten && (jA [] && (jA ((pre.map (chM dl dc y0 y1)).map chE).flatten && true)))=true
  rw [sA bLd,sA aSw];rfl
 ·have:=bAd (dl:=dl) (y0:=y0) (sk:=sk) hd (al:=al) (i:=i) hs (o:=o) (l:=pre.map (chM dl dc y0 y1)) (by rw [eI];omega) hx
  rw [fL];exact this
end
section
theorem bTl{dl:Int}{sk dc:Lqq}(hd:bV dc){bib tm n:Int}(hn:n∈aV dl dc):aPz dl sk dc bib tm n (aLj dc n != bib):=fun base=>by
 unfold aV at hn
 obtain ⟨x,hx,rfl⟩:=dS.1 hn;have hx:=(wI.1 hx).1;have hr:=eV hd hx;have hs:aLj dc (dN x)=vQ dc x:=by unfold aLj;rw [aTc hd hx]
 rw [hs];obtain ⟨h1,h2⟩:=aQl hd hx;have hk:=vO hd (n:=dN x) (by show _∧_;omega)
 have hab:=lE hd x hx;obtain ⟨a,b,c,d,e,f,rfl⟩:=A8 (hd.ud x hx);have hf:inR f:=by
  have:=(jB.1 (hd.rng _ hx));unfold inR;simp [dAb] at this hab ⊢;omega
 exact bTs hk h1 h2 (fun base=>bGh hd hf (.inl hx) hr.2) rfl
theorem bFq(dl:Int)(dc:Lqq)(b:Int):(uA dl dc b).length≤(aV dl dc).length:=yK _ _
theorem bLc{dl:Int}{sk dc:Lqq}(hd:bV dc)(hu:uni 2 sk)(hl:sk.length≤1000)(hs:∀ s∈sk,-1≤s.getD 1 0∧s.getD 1 0≤360000)(ho:(aV dl dc).length≤8) :
  aG Tp 0 (sub (cd Tryz.f91) bp) (nA dl sk dc 0 [] 0) (.exit 0) (nA dl sk dc (bR dl sk dc).length ((bR dl sk dc).map hpE).flatten sk.length):=by
 obtain ⟨acc,hI,hL⟩:=aG.ex (P:=Tp) (k:=0) (b:=sub (cd Tryz.f91) bp) (e := .exit 0) (fun i (al:List eO)=>nA dl sk dc al.length (al.map hpE).flatten i) (fun al=>nA dl sk dc al.length (al.map hpE).flatten sk.length) (fun i al=>al=bR dl (sk.take i) dc) (by simp) sk.length
  (fun i al hi hal=>by
   obtain ⟨x,hx⟩:∃ x,sk[i]? = some x:=⟨_,Aq hi⟩;have hm:=Bi hx;have hsx:=hs x hm;obtain ⟨y0,y1,rfl⟩:=len2 (hu x hm);have hlen:al.length=i:=by rw [hal];unfold bR;rw [eI,mP];omega
   refine ⟨al++[nW dl dc y0 y1 (uA dl dc y0)],?_,bAf (Bs:=uA dl dc y0) (by omega) hx hu (by omega) (bTr (by omega) fun n hn=>bTl hd hn) (bAe hd hsx (fM (bFq dl dc y0) ho)) ⟨rfl,by omega⟩ (aN (by omega)) (by simp) (by simp only [fL,gY,List.map_nil,bDd,vB,List.flatten_nil,List.append_nil];rfl) rfl⟩
   rw [hal];unfold bR;rw [List.take_add_one,hx];simp)
  (fun al _=>bAg (by omega)) (acc:=[]) (by simp [bR])
 rw [List.take_length] at hI
 rw [← hI];exact hL
theorem bTm{dl:Int}{sk dc:Lqq}(hd:bV dc)(hu:uni 2 sk)(hl:sk.length≤1000)(hs:∀ s∈sk,-1≤s.getD 1 0∧s.getD 1 0≤360000)(ho:(aV dl dc).length≤8){base:Nat} :
  FV Tp 91 [qY dl sk dc] base (.tup [.own base,.p (aA 0)]) [(base,.row 232 (bR dl sk dc).length ((bR dl sk dc).map hpE).flatten)]:=bTo hd (by omega) (bLc hd hu hl hs ho)
end
end KV
end Go.Proofs
section
namespace Go.Proofs
open Go.Shelf
def Tryz.lays189_ren:Go.Shelf.Ren:=⟨fun | 189=>161 | 125=>195 | 257=>209 | 128=>231 | 129=>232 | 294=>255 | 295=>256 | 296=>257 | 297=>258 | 298=>259 | 299=>260 | 216=>261 | 300=>262 | 301=>263 | 328=>284 | 329=>271 | 330=>272 | 331=>285 | 332=>286 | 215=>124 | 343=>294 | n=>n,fun | 28=>31 | 3=>3 | 46=>266 | 0=>0 | 51=>94 | 53=>288 | 4=>4 | 183=>281 | 182=>280 | 131=>179 | 5=>5 | 9=>9 | 218=>307 | 222=>311 | 228=>322 | 229=>236 | n=>n,fun | n=>n⟩
theorem Tryz.lays189:Go.Proofs.Lays.n189 Tryz.prog Tryz.lays189_ren:={
 mixed:=by kernel_rfl
 f125:=func195.trans (congrArg some (by kernel_rfl))
 f128:=func231.trans (congrArg some (by kernel_rfl))
 f129:=func232.trans (congrArg some (by kernel_rfl))
 f189:=func161.trans (congrArg some (by kernel_rfl))
 f215:=func124.trans (congrArg some (by kernel_rfl))
 f216:=func261.trans (congrArg some (by kernel_rfl))
 f257:=func209.trans (congrArg some (by kernel_rfl))
 f294:=func255.trans (congrArg some (by kernel_rfl))
 f295:=func256.trans (congrArg some (by kernel_rfl))
 f296:=func257.trans (congrArg some (by kernel_rfl))
 f297:=func258.trans (congrArg some (by kernel_rfl))
 f298:=func259.trans (congrArg some (by kernel_rfl))
 f299:=func260.trans (congrArg some (by kernel_rfl))
 f300:=func262.trans (congrArg some (by kernel_rfl))
 f301:=func263.trans (congrArg some (by kernel_rfl))
 f328:=func284.trans (congrArg some (by kernel_rfl))
 f329:=func271.trans (congrArg some (by kernel_rfl))
 f330:=func272.trans (congrArg some (by kernel_rfl))
 f331:=func285.trans (congrArg some (by kernel_rfl))
 f332:=func286.trans (congrArg some (by kernel_rfl))
 f343:=func294.trans (congrArg some (by kernel_rfl))
 t0:=Tryz.underlying0
 a0:=Tryz.isAgg0
 z0:=Tryz.sizeOf0
 v0:=Tryz.zeroValue0
 t3:=Tryz.underlying3
 a3:=Tryz.isAgg3
 z3:=Tryz.sizeOf3
 v3:=Tryz.zeroValue3
 t4:=Tryz.underlying4
 a4:=Tryz.isAgg4
 z4:=Tryz.sizeOf4
 v4:=Tryz.zeroValue4
 t5:=Tryz.underlying5
 a5:=Tryz.isAgg5
 z5:=Tryz.sizeOf5
 v5:=Tryz.zeroValue5
 t9:=Tryz.underlying9
 a9:=Tryz.isAgg9
 z9:=Tryz.sizeOf9
 v9:=Tryz.zeroValue9
 t28:=Tryz.underlying31
 a28:=Tryz.isAgg31
 z28:=Tryz.sizeOf31
 v28:=Tryz.zeroValue31
 t46:=Tryz.underlying266
 a46:=Tryz.isAgg266
 z46:=Tryz.sizeOf266
 v46:=Tryz.zeroValue266
 t51:=Tryz.underlying94
 a51:=Tryz.isAgg94
 z51:=Tryz.sizeOf94
 v51:=Tryz.zeroValue94
 t53:=Tryz.underlying288
 a53:=Tryz.isAgg288
 z53:=Tryz.sizeOf288
 v53:=Tryz.zeroValue288
 t131:=Tryz.underlying179
 a131:=Tryz.isAgg179
 z131:=Tryz.sizeOf179
 v131:=Tryz.zeroValue179
 t182:=Tryz.underlying280
 a182:=Tryz.isAgg280
 z182:=Tryz.sizeOf280
 v182:=Tryz.zeroValue280
 t183:=Tryz.underlying281
 a183:=Tryz.isAgg281
 z183:=Tryz.sizeOf281
 v183:=Tryz.zeroValue281
 t218:=Tryz.underlying307
 a218:=Tryz.isAgg307
 z218:=Tryz.sizeOf307
 v218:=Tryz.zeroValue307
 t222:=Tryz.underlying311
 a222:=Tryz.isAgg311
 z222:=Tryz.sizeOf311
 v222:=Tryz.zeroValue311
 t228:=Tryz.underlying322
 a228:=Tryz.isAgg322
 z228:=Tryz.sizeOf322
 v228:=Tryz.zeroValue322
 t229:=Tryz.underlying236
 a229:=Tryz.isAgg236
 z229:=Tryz.sizeOf236
 v229:=Tryz.zeroValue236 }
open Go.Sort Go.RowKit in
theorem Tryz.slices_Sort_int(blk off cap:Nat)(zs:List Int)(w:World)(hH:Holds (Value.int .i64) w blk off zs.toArray)(hblk:blk<w.heap.size)(hsz:zs.length<4611686018427387904) :
  Calls Tryz.prog 161 #[.slice (some ⟨blk,off,none⟩) zs.length cap] w fun e w' =>
   e = .returned (.tuple #[])∧∃ n os,w'=grow (putRow (Value.int .i64) (Sort.ahead w n) blk off (zs.mergeSort fun x y=>decide (x≤y)).toArray) os:=Any.slices_Sort_int Tryz.lays189 blk off cap zs w hH hblk hsz
def Tryz.laysNm220_ren:Go.Shelf.Ren:=⟨fun | 20=>162 | n=>n,fun | 22=>31 | 3=>3 | 4=>4 | 0=>0 | n=>n,fun | n=>n⟩
theorem Tryz.laysNm220:Go.Proofs.Lays2.n20 Tryz.prog Tryz.laysNm220_ren:={
 mixed:=by kernel_rfl
 f20:=func162.trans (congrArg some (by kernel_rfl))
 t0:=Tryz.underlying0
 a0:=Tryz.isAgg0
 z0:=Tryz.sizeOf0
 v0:=Tryz.zeroValue0
 t3:=Tryz.underlying3
 a3:=Tryz.isAgg3
 z3:=Tryz.sizeOf3
 v3:=Tryz.zeroValue3
 t4:=Tryz.underlying4
 a4:=Tryz.isAgg4
 z4:=Tryz.sizeOf4
 v4:=Tryz.zeroValue4
 t22:=Tryz.underlying31
 a22:=Tryz.isAgg31
 z22:=Tryz.sizeOf31
 v22:=Tryz.zeroValue31
 i3:=by kernel_rfl }
open Go.RowKit Go.Lib Go.Sort in
theorem Tryz.slices_Compact_int(blk off cap:Nat)(zs:List Int)(w:World)(hH:Holds (Value.int .i64) w blk off zs.toArray)(hsz:zs.length≤9223372036854775807)(hcap:zs.length≤cap) :
  Calls Tryz.prog 162 #[.slice (some ⟨blk,off,none⟩) zs.length cap] w fun e w'=>e = .returned (.slice (some ⟨blk,off,none⟩) (Lib.compact zs).length cap)∧∃ q,w'=putRow (Value.int .i64) (Sort.ahead w q) blk off (Lib.compact zs++List.replicate (zs.length-(Lib.compact zs).length) 0).toArray:=Any.slices_Compact_int Tryz.laysNm220 blk off cap zs w hH hsz hcap
open Go.RowKit Go.Lib Go.Sort in
theorem Tryz.slices_Compact_int_empty(a:Option Addr)(cap:Nat)(w:World) :
  Calls Tryz.prog 162 #[.slice a 0 cap] w fun e w'=>e = .returned (.slice a 0 cap)∧w'=w:=Any.slices_Compact_int_empty Tryz.laysNm220 a cap w
theorem Tryz.slices_Sort_int_none(p:Option Addr)(cap:Nat)(w:World) :
  Calls Tryz.prog 161 #[.slice p 0 cap] w fun e w'=>e = .returned (.tuple #[])∧w'=w:=Any.slices_Sort_int_none Tryz.lays189 p cap w
end Go.Proofs
end
section
namespace Go.Proofs
open Go.RowKit Go.Lib Go.Sort
namespace KL
def OwnI(w:World)(base:Nat)(v:Value)(l:List Int):Prop:=w.ownsRow base 3 1 v l.length (l.map (Value.int .i64))

def leB:Int→Int→Bool:=fun x y=>decide (x≤y)

theorem bGj(base:Nat)(v:Value)(l:List Int)(w:World)(hv:OwnI w base v l)(hlen:l.length≤1000000) :
  Calls Tryz.prog 161 #[v] w fun e w'=>e = .returned (.tuple #[])∧OwnI w' base v (l.mergeSort leB)∧w.grownBy w' v.ownBlock:=by
 have hown:=hv
 rcases hv.2 with ⟨rfl,h0⟩ | ⟨g,cap,cur,rfl,hb,hg,hn,hm,hs,ht⟩
 ·have:l=[]:=List.eq_nil_of_length_eq_zero h0
  subst this;refine (Tryz.slices_Sort_int_none none 0 w).mono ?_;rintro e w' ⟨rfl,rfl⟩;exact ⟨rfl,by simpa using hown,World.grownBy.refl _ _⟩
 ·have hlt:=lt_of_block hg
  refine (Tryz.slices_Sort_int g 0 cap l w (holds_of_blockI hg (by simpa using ht)) hlt (by omega)).mono ?_
  rintro e w' ⟨rfl,n,os,rfl⟩;refine ⟨rfl,?_,grownBy_sortedI _⟩;have hl:(l.mergeSort leB).length=l.length:=List.length_mergeSort l;unfold OwnI;rw [hl];exact ownsRow_sortedI hl hb hg hn hm hs

end KL
open KL
namespace KV
open Tryz
open Go.Shelf
variable {P:Program} {C:Cx} {M:Mem} {w w':World}
abbrev pA(l:List Int):AO := .row 3 l.length (l.map aA)
theorem bGk{F:Nat→Prop}{cur:Array Value}{l:List Int}(hle:l.length≤cur.size)(h:∀ j (hj:j<(l.map aA).length),cB F w (l.map aA)[j] (cur.getD j undef)):cur.toList.take l.length=l.map (Value.int .i64):=by
 apply List.ext_getElem
 ·simp;omega
 ·intro i h1 h2
  have hi:i<l.length:=by simpa using h2
  have:=h i (by simpa using hi)
  rw [List.getElem_map] at this
  rw [List.getElem_map,List.getElem_take];cases hx:cur.getD i undef with
  | int k z =>
   rw [hx] at this
   cases this;rw [Array.getD_eq_getD_getElem?,Array.getElem?_eq_getElem (by omega)] at hx
   simpa using hx
  | _=>rw [hx] at this;cases this
theorem aLr(F:Nat→Prop){cur:Array Value}{l:List Int}(h:cur.toList.take l.length=l.map (Value.int .i64)):(∀ j (hj:j<(l.map aA).length),cB F w (l.map aA)[j] (cur.getD j undef))∧∀ j,j<(l.map aA).length→(cur.getD j undef).oneCell'=true:=by
 have key:∀ j (hj:j<l.length),cur.getD j undef = .int .i64 l[j]:=fun j hj=>by
  have h1:=congrArg (fun x=>x[j]?) h
  simp only [List.getElem?_take,hj,if_true,List.getElem?_map,List.getElem?_eq_getElem hj,Option.map_some,Array.getElem?_toList] at h1
  rw [Array.getD_eq_getD_getElem?,h1];rfl
 refine ⟨fun j hj => ?_,fun j hj => ?_⟩
 ·have Bt:j<l.length:=by simpa using hj
  rw [List.getElem_map,key j Bt];exact .v _
 ·rw [key j (by simpa using hj)];rfl

theorem Ie:∃ i,Tryz.prog.info? 3=some i∧i.size=1:=rX (show (Tryz.prog.info? 3).map (fun i=>i.size)=some 1 by kernel_rfl)
theorem bGl{id:Nat}{l:List Int}{u:Value}(hM:aP Tryz.prog C M w)(ho:M[id]? = some (some (pA l)))(h:Rep C M w (.own id) u):OwnI w 0 u l:=by
 refine ⟨by simp,?_⟩
 cases h with
 | own _ _ h0 ha hr =>
  rcases hr _ _ _ ho with ⟨rfl,_,hn⟩ | ⟨b,rfl,hb⟩
  ·exact .inl ⟨rfl,hn⟩
  ·rcases hM.row _ _ _ _ ho with ⟨Ee,_⟩ | ⟨b',arr,inf,Al,q1,q2,q3,q4,q5,q6,q7,q8⟩
   ·rw [hb] at Ee;cases Ee
   ·rw [hb] at Al;cases Al
    obtain ⟨i,hi,hs⟩:=Ie;rw [hi] at q2;cases q2
    exact .inr ⟨b,_,arr,rfl,Nat.zero_le _,q1,q5,q6,by rw [q3,hs],by rw [Nat.mul_one];exact bGk (by rw [q3,hs];omega) q7⟩

theorem aFk{l l':List Int}{u u':Value}{d:Bool}(hM:aP Tryz.prog C [some (pA l)] w)(h:Rep C [some (pA l)] w (.own 0) u)(hown:OwnI w' 0 u' l')(hg:w.grownBy w' u.ownBlock)
  (hb:u'.ownBlock=u.ownBlock) (hd:d=false→u'=u∧l'.length=l.length) :
  ∃ C',Fr C [some (pA l)] w C' (if d then [some .dead,some (pA l')] else [some (pA l')]) w'∧aP Tryz.prog C' (if d then [some .dead,some (pA l')] else [some (pA l')]) w'∧Rep C' (if d then [some .dead,some (pA l')] else [some (pA l')]) w' (.own (if d then 1 else 0)) u':=by
 have Ij:∀ (id:Nat) (o:AO),([some (pA l)]:Mem)[id]? = some (some o)→id=0∧o=pA l:=fun id o h=>by
  cases id with
  | zero=>simp at h;exact ⟨rfl,h.symm⟩
  | succ i=>simp at h
 have hblk:∀ b,C.ι 0=some b→u.ownBlock=some b∧∃ cap,u = .slice (some ⟨b,0,none⟩) l.length cap∧cap=C.κ 0:=fun b Nr=>by
  cases h with
  | own _ _ h0 ha hr =>
   rcases hr _ _ _ rfl with ⟨_,hn,_⟩ | ⟨b',rfl,Al⟩
   ·rw [Nr] at hn;cases hn
   ·rw [Nr] at Al;cases Al;exact ⟨rfl,_,rfl,rfl⟩
 have hnb:C.ι 0=none→u = .slice none 0 0:=fun hn=>by
  cases h with
  | own _ _ h0 ha hr =>
   rcases hr _ _ _ rfl with ⟨hu,_,_⟩ | ⟨b',rfl,Al⟩
   ·exact hu
   ·rw [hn] at Al;cases Al
 have hkeep:∀ b,b<w.heap.size→(∀ (id:Nat) (o:AO),([some (pA l)]:Mem)[id]? = some (some o)→o.live=true→C.ι id≠some b)→w'.heap[b]? = w.heap[b]? := fun b Ci hn=>by
  refine hg.block b Ci fun he => ?_
  cases hι:C.ι 0 with
  | none=>rw [hnb hι] at he;cases he
  | some b' =>
   rw [(hblk b' hι).1] at he;cases he
   exact hn 0 _ rfl rfl hι
 have hFz:∀ b,C.F b→w'.heap[b]? = w.heap[b]? := fun b hf=>hkeep b (hM.Fs b hf) fun id o hm hl he=>hM.nF id o b hm hl he hf
 cases d with
 | false =>
  obtain ⟨rfl,hlen⟩:=hd rfl;simp only [Bool.false_eq_true,if_false];have Cp:∀ (id:Nat) (o:AO),([some (pA l')]:Mem)[id]? = some (some o)→id=0∧o=pA l':=fun id o h=>by
   cases id with
   | zero=>simp at h;exact ⟨rfl,h.symm⟩
   | succ i=>simp at h
  have Ns:∀ b,C.ι 0=some b→∃ cur,w'.heap[b]? = some (.cells cur 3 (0,0))∧l'.length≤C.κ 0∧C.κ 0≤maxLen∧cur.size=C.κ 0∧cur.toList.take l'.length=l'.map (Value.int .i64):=fun b hι=>by
   obtain ⟨_,cap,hu,hc⟩:=hblk b hι
   rcases hown.2 with ⟨he,_⟩ | ⟨g,Er,cur,hv,_,hh,r1,r2,r3,r4⟩
   ·rw [hu] at he;cases he
   ·rw [hu] at hv
    obtain ⟨e1,_,e3⟩:=Value.slice.inj hv;cases e1;subst e3;subst hc;exact ⟨cur,hh,r1,r2,by omega,by simpa using r4⟩
  refine ⟨C,⟨hg.os,hg.tape,hg.output,hg.size,hkeep,fun id o hm => ?_,fun id o hm ty n cs hx => ?_,fun id o hm o' hx hl => ?_,fun id o b hm hl hb => ?_,fun _ h=>h,fun _ h => .inl h⟩,
   ⟨fun id ty n cs hm => ?_,fun id ty cs hm => ?_,fun id es cl hm => ?_,fun id Eu o o' b h1 _ h2 _ _ _ => ?_,fun id o b hm hl hb => ?_,fun b hb=>Nat.lt_of_lt_of_le (hM.Fs b hb) hg.size,fun id o b hm hl hb => ?_⟩,?_⟩
  ·obtain ⟨rfl,rfl⟩:=Ij id o hm
   exact ⟨⟨_,rfl⟩,rfl,rfl⟩
  ·obtain ⟨rfl,rfl⟩:=Ij id o hm
   obtain ⟨_,he⟩:=Cp _ _ hx;cases he;exact ⟨l.map aA,by rw [hlen];rfl⟩
  ·obtain ⟨rfl,rfl⟩:=Ij id o hm
   rfl
  ·obtain ⟨rfl,rfl⟩:=Cp id o hm
   exact .inr ⟨0,_,rfl,rfl,hb⟩
  ·obtain ⟨rfl,he⟩:=Cp id _ hm
   cases he;cases hι:C.ι 0 with
   | none =>
    have:=hnb hι
    rcases hown.2 with ⟨_,h0⟩ | ⟨g,Er,cur,hv,_⟩
    ·have:l'=[]:=List.eq_nil_of_length_eq_zero h0
     subst this;exact .inl ⟨rfl,rfl,rfl⟩
    ·rw [this] at hv;cases hv
   | some b =>
    obtain ⟨cur,q1,q2,q3,q4,q5⟩:=Ns b hι;obtain ⟨i,hi,hs⟩:=Ie;obtain ⟨r1,r2⟩:=aLr (w:=w') C.F q5;exact .inr ⟨b,cur,i,rfl,q1,hi,by rw [hs,q4,Nat.mul_one],by simp [hs],q2,q3,r1,r2⟩
  ·obtain ⟨_,he⟩:=Cp id _ hm;cases he
  ·obtain ⟨_,he⟩:=Cp id _ hm;cases he
  ·obtain ⟨rfl,_⟩:=Cp id _ h1
   obtain ⟨rfl,_⟩:=Cp Eu _ h2;rfl
  ·obtain ⟨rfl,_⟩:=Cp id _ hm
   exact hM.nF 0 _ b rfl rfl hb
  ·obtain ⟨rfl,_⟩:=Cp id _ hm
   exact Nat.lt_of_lt_of_le (hM.lt 0 _ b rfl rfl hb) hg.size
  ·cases h with
   | own _ _ h0 ha hr =>
    refine .own 0 _ h0 ⟨_,rfl⟩ fun ty n cs hx => ?_
    obtain ⟨_,he⟩:=Cp 0 _ hx;cases he
    rcases hr _ _ _ rfl with ⟨q1,q2,q3⟩ | ⟨b,q1,q2⟩
    ·exact .inl ⟨q1,q2,by omega⟩
    ·exact .inr ⟨b,by rw [q1,hlen],q2⟩
 | true =>
  simp only [if_true]
  let Er:Nat:=match u' with | .slice _ _ c=>c | _=>0
  have Cp:∀ (id:Nat) (o:AO),([some .dead,some (pA l')]:Mem)[id]? = some (some o)→(id=0∧o = .dead)∨(id=1∧o=pA l'):=fun id o h=>by
   match id,h with
   | 0,h=>simp at h;exact .inl ⟨rfl,h.symm⟩
   | 1,h=>simp at h;exact .inr ⟨rfl,h.symm⟩
   | i+2,h=>simp at h
  refine ⟨{ ι:=fun i=>if i=1 then u'.ownBlock else C.ι i,κ:=fun i=>if i=1 then Er else C.κ i,F:=C.F },⟨hg.os,hg.tape,hg.output,hg.size,hkeep,fun id o hm => ?_,fun id o hm ty n cs hx => ?_,fun id o hm o' hx hl => ?_,fun id o b hm hl hbb => ?_,fun _ h=>h,fun _ h => .inl h⟩,
   ⟨fun id ty n cs hm => ?_,fun id ty cs hm => ?_,fun id es cl hm => ?_,fun id Eu o o' b h1 l1 h2 l2 _ _ => ?_,fun id o b hm hl hbb => ?_,fun b hb=>Nat.lt_of_lt_of_le (hM.Fs b hb) hg.size,fun id o b hm hl hbb => ?_⟩,?_⟩
  ·obtain ⟨rfl,rfl⟩:=Ij id o hm
   exact ⟨⟨_,rfl⟩,rfl,rfl⟩
  ·obtain ⟨rfl,rfl⟩:=Ij id o hm
   rcases Cp _ _ hx with ⟨_,he⟩ | ⟨he,_⟩
   ·cases he
   ·cases he
  ·obtain ⟨rfl,rfl⟩:=Ij id o hm
   rfl
  ·rcases Cp id o hm with ⟨rfl,rfl⟩ | ⟨rfl,rfl⟩
   ·cases hl
   ·simp only [if_true] at hbb
    rw [hb] at hbb
    cases hι:C.ι 0 with
    | none=>rw [hnb hι] at hbb;cases hbb
    | some b' =>
     rw [(hblk b' hι).1] at hbb;cases hbb
     exact .inr ⟨0,_,rfl,rfl,hι⟩
  ·rcases Cp id _ hm with ⟨_,he⟩ | ⟨rfl,he⟩
   ·cases he
   ·cases he
    simp only [if_true]
    rcases hown.2 with ⟨rfl,h0⟩ | ⟨g,cp,cur,rfl,_,hh,r1,r2,r3,r4⟩
    ·have:l'=[]:=List.eq_nil_of_length_eq_zero h0
     subst this;exact .inl ⟨rfl,rfl,rfl⟩
    ·obtain ⟨i,hi,hs⟩:=Ie
     obtain ⟨q1,q2⟩:=aLr (w:=w') C.F (by simpa using r4)
     exact .inr ⟨g,cur,i,rfl,hh,hi,by rw [hs];exact r3,by simp [hs],r1,r2,q1,q2⟩
  ·rcases Cp id _ hm with ⟨_,he⟩ | ⟨_,he⟩ <;> cases he
  ·rcases Cp id _ hm with ⟨_,he⟩ | ⟨_,he⟩ <;> cases he
  ·rcases Cp id _ h1 with ⟨_,rfl⟩ | ⟨rfl,_⟩
   ·cases l1
   ·rcases Cp Eu _ h2 with ⟨_,rfl⟩ | ⟨rfl,_⟩
    ·cases l2
    ·rfl
  ·rcases Cp id _ hm with ⟨_,rfl⟩ | ⟨rfl,_⟩
   ·cases hl
   ·simp only [if_true] at hbb
    rw [hb] at hbb
    cases hι:C.ι 0 with
    | none=>rw [hnb hι] at hbb;cases hbb
    | some b' =>
     rw [(hblk b' hι).1] at hbb;cases hbb
     exact hM.nF 0 _ _ rfl rfl hι
  ·rcases Cp id _ hm with ⟨_,rfl⟩ | ⟨rfl,_⟩
   ·cases hl
   ·simp only [if_true] at hbb
    rw [hb] at hbb
    cases hι:C.ι 0 with
    | none=>rw [hnb hι] at hbb;cases hbb
    | some b' =>
     rw [(hblk b' hι).1] at hbb;cases hbb
     exact Nat.lt_of_lt_of_le (hM.lt 0 _ _ rfl rfl hι) hg.size
  ·have h0:u'.oneCell'=true:=by
    rcases hown.2 with ⟨rfl,_⟩ | ⟨g,cp,cur,rfl,_⟩ <;> rfl
   refine .own 1 _ h0 ⟨_,rfl⟩ fun ty n cs hx => ?_
   rcases Cp _ _ hx with ⟨he,_⟩ | ⟨_,he⟩
   ·cases he
   ·cases he
    simp only [if_true]
    rcases hown.2 with ⟨rfl,h9⟩ | ⟨g,cp,cur,rfl,_⟩
    ·exact .inl ⟨rfl,rfl,h9⟩
    ·exact .inr ⟨g,rfl,rfl⟩

theorem bGm(l:List Int)(hl:l.length≤1000000):FMM Tryz.prog 161 [.own 0] [some (pA l)] (.tup []) [some (pA (l.mergeSort leB))]:=fun C w us hus hM n=>by
 obtain ⟨u,rfl,hu⟩:=vJ hus;refine (callsIn_wide.2 (bGj 0 u l w (bGl hM rfl hu) hl)).mono ?_;rintro e w' ⟨rfl,h1,h2⟩;obtain ⟨C',f,m,_⟩:=aFk (d:=false) hM hu h1 h2 rfl (fun _=>⟨rfl,List.length_mergeSort l⟩)
 exact ⟨_,rfl,C',f,m,.tup [] #[] rfl (fun i h=>by simp at h)⟩
theorem aCh(l:List Int):(Lib.compact l).length≤l.length:=by
 unfold Lib.compact Lib.compactUpTo;rw [List.length_map];exact Nat.le_trans (List.length_filter_le _ _) (by simp)
theorem aLs(base:Nat)(v:Value)(l:List Int)(w:World)(hv:KL.OwnI w base v l)(hlen:l.length≤1000000) :
  Calls Tryz.prog 162 #[v] w fun e w'=>∃ p' n' Er,e = .returned (.slice p' n' Er)∧n'=(Lib.compact l).length∧KL.OwnI w' base (.slice p' n' Er) (Lib.compact l)∧w.grownBy w' v.ownBlock∧((Value.slice p' n' Er).ownBlock=v.ownBlock):=by
 have hown:=hv
 rcases hv.2 with ⟨rfl,h0⟩ | ⟨b,cap,cur,rfl,hb,hg,hn,hm,hs,ht⟩
 ·have:l=[]:=List.eq_nil_of_length_eq_zero h0
  subst this;refine (Tryz.slices_Compact_int_empty none 0 w).mono ?_;rintro e w' ⟨rfl,rfl⟩;exact ⟨_,_,_,rfl,rfl,hown,World.grownBy.refl _ _,rfl⟩
 ·refine (Tryz.slices_Compact_int b 0 cap l w (holds_of_blockI hg (by simpa using ht)) (by omega) (by simpa using hn)).mono ?_
  rintro e w' ⟨rfl,q,rfl⟩;have hfl:=aCh l;refine ⟨_,_,_,rfl,rfl,?_,?_,rfl⟩
  ·have:=ownsRow_putRow (enc:=Value.int .i64) (q:=q) (k:=(Lib.compact l).length) (ys:=Lib.compact l++List.replicate (l.length-(Lib.compact l).length) 0) hown (by simp;omega) hfl
   unfold KL.OwnI;simpa using this
  ·exact grownBy_sortedI (os := #[]) (n:=q) (g:=b) (w:=w) ((Lib.compact l++List.replicate (l.length-(Lib.compact l).length) 0).toArray)
theorem aLt(l:List Int)(hl:l.length≤1000000):FMM Tryz.prog 162 [.own 0] [some (.row 3 l.length (l.map aA))] (.own 1) [some .dead,some (.row 3 (Lib.compact l).length ((Lib.compact l).map aA))]:=fun C w us hus hM n=>by
 obtain ⟨u,rfl,hu⟩:=vJ hus;refine (callsIn_wide.2 (aLs 0 u l w (bGl hM rfl hu) hl)).mono ?_;rintro e w' ⟨p',n',Er,rfl,h0,h1,h2,h3⟩;obtain ⟨C',f,m,r⟩:=aFk (d:=true) hM hu h1 h2 h3 (fun h=>by cases h)
 exact ⟨_,rfl,C',f,m,r⟩
end KV
end Go.Proofs
end
namespace Go.Proofs
namespace KV
open Tryz
section
variable {ou inn Bj:Bool}{t Bd B9 Ca:Int}{o o' Dt:List Int}{i n s i' few base Je many G2:Nat}

noncomputable abbrev rA:Code:=sub (cd Tryz.f160) [1,1,0,1,0,0]
noncomputable abbrev aCc:Code:=sub (cd Tryz.f92) [1,0,1,0,0]
noncomputable abbrev aCd:Code:=sub (cd Tryz.f92) [1,0,1,0,0,1,1,0,0,1,1,1,1,1,0,0]
theorem aHt:0≤(0:Int)∧(0:Int)<2:=by first | decide | simp
theorem aHu:0≤(1:Int)∧(1:Int)<2:=by first | decide | simp
def gS(al:List eO)(s:Nat)(t:Int)(few:Nat)(many:Nat)(i:Nat):St:=⟨fr 39 [(1,(pI (s:Int))),(2,(pI t)),(6,(pI 0)),(7,(pI 0)),(8,(pI (few:Int))),(9,(pI (many:Int))),(12,(.p (.sl al.length ((al.map hpE).flatten)))),(13,(pI (al.length:Int))),(14,(pI (i:Int)))],[]⟩
theorem bTh{al:List eO}{Jv H7 B0:Nat}(hl0:aG Tp 0 rA (gS al s t 0 0 0) (.exit 0) (gS al s t Jv H7 B0)):FV Tp 160 [(.p (.sl al.length ((al.map hpE).flatten))),(pI (s:Int)),(pI t)] base (.tup [(pI (Jv:Int)),(pI (H7:Int))]) []:=FV.fi func160 [hl0.k 8 (gZ bh)] (gc hl0.code gn)
theorem aZs{al:List eO}{Cm:List bZ}(h0:(i:Int)<(al.length:Int))(h1:al[i]? = some (Cm,B9,Ca))(h2:(i:Int)=(s:Int))(h3:co i)(Ak:i'=(i+1)):aC Tp 0 rA (gS al s t few many i) .normal (gS al s t few many i'):=by
 subst Ak;exact aC.fi (gZ bh) [bT,.x (.agg [(.sl Cm.length ((Cm.map chE).flatten)),(aA B9),(aA Ca)]),bT] (gc h3 (gc (eJ h2) (gc (lR (E:=hpE) (i:=i) (k:=3) (fun _=>rfl) h1 rfl) (gc (uC (E:=hpE) (i:=i) (k:=3) (fun _=>rfl) h1) (gc (rC (E:=hpE) (k:=3) (i:=(i:Int)) (fun _=>rfl) (by decide) (B4 _) h1) (g0 h0))))))
section
variable{al:List eO}{Cm:List bZ}(h0:(i:Int)<(al.length:Int))(h1:al[i]? = some (Cm,B9,Ca))(h2:(i:Int)≠(s:Int))
include h0 h1 h2
theorem aZt(h3:Ca<t)(h4:co few)(h5:B9<t)(h6:co many)(h7:co i)(H8:Je=(few+1))(Gu:G2=(many+1))(Ak:i'=(i+1)):aC Tp 0 rA (gS al s t few many i) .normal (gS al s t Je G2 i'):=by
 subst H8 Gu Ak;exact aC.fi (gZ bh) [bT,.x (.agg [(.sl Cm.length ((Cm.map chE).flatten)),(aA B9),(aA Ca)]),bF,bT,bT] (gc h7 (gc h6 (gc (bU h5) (gc aHt (gc h4 (gc (bU h3) (gc aHu (gc (bI h2) (gc (lR (E:=hpE) (i:=i) (k:=3) (fun _=>rfl) h1 rfl) (gc (uC (E:=hpE) (i:=i) (k:=3) (fun _=>rfl) h1) (gc (rC (E:=hpE) (k:=3) (i:=(i:Int)) (fun _=>rfl) (by decide) (B4 _) h1) (g0 h0))))))))))))
theorem aZu(h3:Ca<t)(h4:co few)(h5:t≤B9)(h6:co i)(H8:Je=(few+1))(Ak:i'=(i+1)):aC Tp 0 rA (gS al s t few many i) .normal (gS al s t Je many i'):=by
 subst H8 Ak;exact aC.fi (gZ bh) [bT,.x (.agg [(.sl Cm.length ((Cm.map chE).flatten)),(aA B9),(aA Ca)]),bF,bT,bF] (gc h6 (gc (aS h5) (gc aHt (gc h4 (gc (bU h3) (gc aHu (gc (bI h2) (gc (lR (E:=hpE) (i:=i) (k:=3) (fun _=>rfl) h1 rfl) (gc (uC (E:=hpE) (i:=i) (k:=3) (fun _=>rfl) h1) (gc (rC (E:=hpE) (k:=3) (i:=(i:Int)) (fun _=>rfl) (by decide) (B4 _) h1) (g0 h0)))))))))))
theorem aZv(h3:t≤Ca)(h4:B9<t)(h5:co many)(h6:co i)(Gu:G2=(many+1))(Ak:i'=(i+1)):aC Tp 0 rA (gS al s t few many i) .normal (gS al s t few G2 i'):=by
 subst Gu Ak;exact aC.fi (gZ bh) [bT,.x (.agg [(.sl Cm.length ((Cm.map chE).flatten)),(aA B9),(aA Ca)]),bF,bF,bT] (gc h6 (gc h5 (gc (bU h4) (gc aHt (gc (aS h3) (gc aHu (gc (bI h2) (gc (lR (E:=hpE) (i:=i) (k:=3) (fun _=>rfl) h1 rfl) (gc (uC (E:=hpE) (i:=i) (k:=3) (fun _=>rfl) h1) (gc (rC (E:=hpE) (k:=3) (i:=(i:Int)) (fun _=>rfl) (by decide) (B4 _) h1) (g0 h0)))))))))))
theorem aZw(h3:t≤Ca)(h4:t≤B9)(h5:co i)(Ak:i'=(i+1)):aC Tp 0 rA (gS al s t few many i) .normal (gS al s t few many i'):=by
 subst Ak;exact aC.fi (gZ bh) [bT,.x (.agg [(.sl Cm.length ((Cm.map chE).flatten)),(aA B9),(aA Ca)]),bF,bF,bF] (gc h5 (gc (aS h4) (gc aHt (gc (aS h3) (gc aHu (gc (bI h2) (gc (lR (E:=hpE) (i:=i) (k:=3) (fun _=>rfl) h1 rfl) (gc (uC (E:=hpE) (i:=i) (k:=3) (fun _=>rfl) h1) (gc (rC (E:=hpE) (k:=3) (i:=(i:Int)) (fun _=>rfl) (by decide) (B4 _) h1) (g0 h0))))))))))
end
theorem aZx{al:List eO}(h0:(al.length:Int)≤(i:Int)):aC Tp 0 rA (gS al s t few many i) (.exit 0) (gS al s t few many i):=aC.fi (gZ bh) [bF] (gc (aS h0) gn)
def iA(al:List eO)(s:Nat)(t:Int):Nat→Nat × Nat
 | 0=>(0,0)
 | i+1=>match al[i]? with
  | some h=>if i=s then iA al s t i else ((if h.2.2<t then (iA al s t i).1+1 else (iA al s t i).1),(if h.2.1<t then (iA al s t i).2+1 else (iA al s t i).2))
  | none=>iA al s t i
abbrev cL(al:List eO)(s:Nat)(t:Int):Nat × Nat:=iA al s t al.length
theorem nV(al:List eO)(s:Nat)(t:Int):∀ i,(iA al s t i).1≤i∧(iA al s t i).2≤i
 | 0=>⟨dH _,dH _⟩
 | i+1=>by
  have:=nV al s t i;unfold iA
  split
  ·split
   ·omega
   ·dsimp only
    split <;> split <;> omega
  ·omega
theorem bTi(al:List eO)(s:Nat)(t:Int)(hl:al.length≤1000){base:Nat}:FV Tp 160 [.p (.sl al.length (al.map hpE).flatten),.p (aA s),.p (aA t)] base (.tup [.p (aA ((cL al s t).1:Nat)),.p (aA ((cL al s t).2:Nat))]) []:=by
 obtain ⟨a,hI,hL⟩:=aG.ex (P:=Tp) (k:=0) (b:=rA) (e := .exit 0) (fun i (a:Nat × Nat)=>gS al s t a.1 a.2 i) (fun a=>gS al s t a.1 a.2 al.length) (fun i a=>a=iA al s t i) (by simp) al.length
  (fun i a hi ha=>by
   obtain ⟨⟨c,mn,mx⟩,hx⟩:∃ x,al[i]? = some x:=⟨_,Aq hi⟩;have hle:=nV al s t i;refine ⟨_,rfl,?_⟩;subst ha;have e:iA al s t (i+1)=if i=s then iA al s t i else ((if mx<t then (iA al s t i).1+1 else (iA al s t i).1),(if mn<t then (iA al s t i).2+1 else (iA al s t i).2)):=by
    conv=>lhs;unfold iA
    rw [hx]
   rw [e]
   by_cases his:i=s
   ·rw [if_pos his];exact aZs (by omega) hx (by omega) (aN (by omega)) rfl
   ·rw [if_neg his]
    by_cases h1:mx<t <;> by_cases h2:mn<t
    ·rw [if_pos h1,if_pos h2];exact aZt (by omega) hx (by omega) h1 (aN (by omega)) h2 (aN (by omega)) (aN (by omega)) rfl rfl rfl
    ·rw [if_pos h1,if_neg h2];exact aZu (by omega) hx (by omega) h1 (aN (by omega)) (by omega) (aN (by omega)) rfl rfl
    ·rw [if_neg h1,if_pos h2];exact aZv (by omega) hx (by omega) (by omega) h2 (aN (by omega)) (aN (by omega)) rfl rfl
    ·rw [if_neg h1,if_neg h2];exact aZw (by omega) hx (by omega) (by omega) (by omega) (aN (by omega)) rfl)
  (fun a _=>aZx (by omega)) (acc:=(0,0)) rfl
 subst hI;exact bTh hL
def mY(al:List eO)(s:Nat)(c0:List bZ)(on:Nat)(oc:List PV)(ou:Bool)(inn:Bool)(i:Nat):St:=⟨fr 51 [(0,(.p (.sl al.length ((al.map hpE).flatten)))),(1,(pI (s:Int))),(4,(.own 0)),(5,(pB ou)),(6,(pB inn)),(16,(.p (.sl c0.length ((c0.map chE).flatten)))),(17,(pI (c0.length:Int))),(18,(pI (i:Int)))],[some (.row 3 on oc)]⟩
theorem bTj{al:List eO}{c0:List bZ}{Tm Tn:Int}{Kw:List Int}{Na Jw:Bool}{To:Nat}(h0:al[s]? = some (c0,Tm,Tn))(A4:aG Tp 0 aCc (mY al s c0 0 [] false false 0) (.exit 0) (mY al s c0 Kw.length (Kw.map aA) Na Jw To))(h2:Kw.length≤1000000)(h3:(Kw.mergeSort KL.leB).length≤1000000):FV Tp 92 [(.p (.sl al.length ((al.map hpE).flatten))),(pI (s:Int))] base (.tup [(.p (aH (Lib.compact (Kw.mergeSort KL.leB)))),(pB Na),(pB Jw)]) []:=have k1:=mq [0] 1 (bGm Kw h2);have k2:=mq [0] 1 (aLt (Kw.mergeSort KL.leB) h3);FV.frz (FMM.fi 0 ⟨[],[],[1],[]⟩ func92 [.x (.sl c0.length ((c0.map chE).flatten)),A4.k 1 (gN bi [0] [(4,3),(5,0),(6,0)]),k1.o,k2.o] (gc k2 (gc k1 (gc A4.code (gt (((al.map hpE).flatten)[(s*3)]? = some (.sl c0.length ((c0.map chE).flatten))) (bBf (E:=hpE) (i:=s) (f:=0) (k:=3) (fun _=>rfl) h0 rfl) (gc (rC (E:=hpE) (k:=3) (i:=(s:Int)) (fun _=>rfl) (by decide) (B4 _) h0) gn)))))) (by kernel_rfl)
def mZ(al:List eO)(s:Nat)(c0:List bZ)(ou:Bool)(i:Nat)(Bd:Int)(Bj:Bool)(Dt:List Int)(on:Nat)(oc:List PV)(n:Nat):St:=⟨fr 51 [(0,(.p (.sl al.length ((al.map hpE).flatten)))),(1,(pI (s:Int))),(4,(.own 0)),(5,(pB ou)),(6,(.kb true)),(8,(.ptr 1 0)),(9,(pI (((cL al s Bd).1:Nat):Int))),(10,(pI (((cL al s Bd).2:Nat):Int))),(11,(pI (n:Int))),(16,(.p (.sl c0.length ((c0.map chE).flatten)))),(17,(pI (c0.length:Int))),(18,(pI (i:Int))),(19,(pB (decide ((i:Int)<(c0.length:Int))))),(20,(.rp ((c0.map chE).flatten) (i*3))),(21,(.p (.agg [(aA Bd),(blP Bj),(aH Dt)]))),(22,(.ptr 1 1)),(23,(pB Bj)),(24,(.tup [(pI (((cL al s Bd).1:Nat):Int)),(pI (((cL al s Bd).2:Nat):Int))])),(25,(.p (.sl al.length ((al.map hpE).flatten)))),(26,(pI (s:Int))),(27,(.ptr 1 0)),(28,(pI Bd)),(29,(.tup [(pI (((cL al s Bd).1:Nat):Int)),(pI (((cL al s Bd).2:Nat):Int))])),(30,(pI (((cL al s Bd).1:Nat):Int))),(31,(pI (((cL al s Bd).2:Nat):Int))),(32,(pI (((cL al s Bd).1:Nat):Int))),(33,(pI ((((cL al s Bd).1+1):Nat):Int)))],[some (.row 3 on oc),some (.box 234 [(pI Bd),(pB Bj),(.p (aH Dt))])]⟩
section
variable{c0:List bZ}(h0:(i:Int)<(c0.length:Int))(h1:c0[i]? = some (Bd,Bj,Dt))
include h0 h1
theorem aZy{al:List eO}(h2:Bj=true)(h3:co i)(Ak:i'=(i+1)):aC Tp 0 aCc (mY al s c0 o.length (o.map aA) ou inn i) .normal (mY al s c0 o.length (o.map aA) true inn i'):=by
 subst Ak;exact aC.fi (gN bi [0] [(5,0)]) [bT,.x (.agg [(aA Bd),(blP Bj),(aH Dt)]),bT] (gc h3 (gc h2 (gc (lR (E:=chE) (i:=i) (k:=3) (fun _=>rfl) h1 rfl) (gc (uC (E:=chE) (i:=i) (k:=3) (fun _=>rfl) h1) (gc (rC (E:=chE) (k:=3) (i:=(i:Int)) (fun _=>rfl) (by decide) (B4 _) h1) (g0 h0))))))
theorem aZz{al:List eO}{G3:List Int}{Nb:Nat}(h2:Bj=false)(h3:al.length≤1000)(h4:inR ((((cL al s Bd).1+1):Nat):Int))(G1:aG Tp 0 aCd (mZ al s c0 ou i Bd Bj Dt o.length (o.map aA) ((cL al s Bd).1+1)) (.exit 2) (mZ al s c0 ou i Bd Bj Dt G3.length (G3.map aA) Nb))(h6:co i)(Cw:o'.length=G3.length)(Cy:o'.map aA=(G3.map aA))(Ak:i'=(i+1)):aC Tp 0 aCc (mY al s c0 o.length (o.map aA) ou inn i) .normal (mY al s c0 o'.length (o'.map aA) ou true i'):=by
 subst Ak;have k1:=fk 2 (bTi al s Bd h3) rfl;rw [Cw,Cy];exact aC.fi (gN bi [0] [(6,0)]) [bT,.x (.agg [(aA Bd),(blP Bj),(aH Dt)]),bF,k1.o,G1.k 3 (gI av [0,1])] (gc h6 (gc G1.code (gc h4 (gc k1 (gc h2 (gc (lR (E:=chE) (i:=i) (k:=3) (fun _=>rfl) h1 rfl) (gc (uC (E:=chE) (i:=i) (k:=3) (fun _=>rfl) h1) (gc (rC (E:=chE) (k:=3) (i:=(i:Int)) (fun _=>rfl) (by decide) (B4 _) h1) (g0 h0)))))))))
end
theorem bAa{al:List eO}{c0:List bZ}(h0:(c0.length:Int)≤(i:Int)):aC Tp 0 aCc (mY al s c0 o.length (o.map aA) ou inn i) (.exit 0) (mY al s c0 o.length (o.map aA) ou inn i):=aC.fi (gI bi [0]) [bF] (gc (aS h0) gn)
section
variable{al:List eO}(h0:inR ((((cL al s Bd).2+1):Nat):Int))
include h0
theorem bAb{c0:List bZ}{n':Nat}(h1:(n:Int)≤((((cL al s Bd).2+1):Nat):Int))(h2:[(aA (n:Int))].length=1*1∧o.length+1≤1000000)(h3:co n)(Cw:o'.length=(o.length+1))(Cy:o'.map aA=((o.map aA)++[(aA (n:Int))]))(Tq:n'=(n+1)):aC Tp 0 aCd (mZ al s c0 ou i Bd Bj Dt o.length (o.map aA) n) .normal (mZ al s c0 ou i Bd Bj Dt o'.length (o'.map aA) n'):=by
 subst Tq;rw [Cw,Cy];exact aC.fi (gI av [3,1]) [bT] (gc h3 (gc h2 (gc (yN h1) (gc h0 gn))))
theorem bAc{c0:List bZ}(h1:((((cL al s Bd).2+1):Nat):Int)<(n:Int)):aC Tp 0 aCd (mZ al s c0 ou i Bd Bj Dt o.length (o.map aA) n) (.exit 2) (mZ al s c0 ou i Bd Bj Dt o.length (o.map aA) n):=aC.fi (gI av [0,1]) [bF] (gc (kT h1) (gc h0 gn))
end
def aLi(few many:Nat):List Int:=(List.range (many+1-few)).map fun j=>((few+1+j:Nat):Int)
def chL(al:List eO)(s:Nat)(c:bZ):List Int:=if c.2.1 then [] else aLi (cL al s c.1).1 (cL al s c.1).2
def oY(al:List eO)(s:Nat)(c:List bZ):List Int:=Lib.compact ((c.flatMap (chL al s)).mergeSort KL.leB)
theorem bFp{a b:Nat}(h:b≤1000):(aLi a b).length≤1001:=by unfold aLi;simp;omega
theorem bLb(al:List eO)(hal:al.length≤1000)(s:Nat)(c:bZ):(chL al s c).length≤1001:=by
 unfold chL
 split
 ·simp
 ·exact bFp (by have:(cL al s c.1).2≤al.length:=(nV al s c.1 al.length).2;omega)
theorem aHv{al:List eO}(hal:al.length≤1000)(s:Nat):∀ c:List bZ,(c.flatMap (chL al s)).length≤c.length*1001
 | []=>by simp
 | x::c=>by
  rw [List.flatMap_cons,lT,tK];have:=bLb al hal s x;have:=aHv hal s c;omega
theorem bTk{al:List eO}(hal:al.length≤1000)(s:Nat)(c0:List bZ)(ou:Bool)(i:Nat)(t:Int)(b:Bool)(q o:List Int)(ho:o.length≤900000) :
  ∃ n',aG Tp 0 aCd (mZ al s c0 ou i t b q o.length (o.map aA) ((cL al s t).1+1)) (.exit 2) (mZ al s c0 ou i t b q (o++aLi (cL al s t).1 (cL al s t).2).length ((o++aLi (cL al s t).1 (cL al s t).2).map aA) n'):=by
 have h1:(cL al s t).1≤al.length:=(nV al s t al.length).1;have h2:(cL al s t).2≤al.length:=(nV al s t al.length).2;obtain ⟨x,hI,hL⟩:=aG.ex (P:=Tp) (k:=0) (b:=aCd) (e := .exit 2) (fun j (x:List Int)=>mZ al s c0 ou i t b q x.length (x.map aA) ((cL al s t).1+1+j)) (fun x=>mZ al s c0 ou i t b q x.length (x.map aA) ((cL al s t).1+1+((cL al s t).2+1-(cL al s t).1)))
  (fun j x=>x=o++(List.range j).map fun j=>(((cL al s t).1+1+j:Nat):Int)) (by simp) ((cL al s t).2+1-(cL al s t).1)
  (fun j x hj hx=>by
   have hlen:x.length=o.length+j:=by rw [hx];simp
   refine ⟨x++[(((cL al s t).1+1+j:Nat):Int)],?_,bAb (aN (by omega)) (by omega) ⟨rfl,by omega⟩ (aN (by omega)) (by simp) (by simp) rfl⟩
   rw [hx,List.range_succ];simp)
  (fun x _=>bAc (aN (by omega)) (by omega)) (acc:=o) (by simp)
 rw [show o++aLi (cL al s t).1 (cL al s t).2=x from hI.symm]
 exact ⟨_,hL⟩
theorem aPv{al:List eO}(hal:al.length≤1000){s:Nat}{c:List bZ}{mn mx:Int}(hx:al[s]? = some (c,mn,mx))(hc:c.length≤256){base:Nat} :
  FV Tp 92 [.p (.sl al.length (al.map hpE).flatten),.p (aA s)] base (.tup [.p (aH (oY al s c)),.p (blP (c.any fun x=>x.2.1)),.p (blP (c.any fun x => !x.2.1))]) []:=by
 obtain ⟨a,⟨hI,hJ,hK⟩,hL⟩:=aG.ex (P:=Tp) (k:=0) (b:=aCc) (e := .exit 0) (fun i (a:List Int × Bool × Bool)=>mY al s c a.1.length (a.1.map aA) a.2.1 a.2.2 i) (fun a=>mY al s c a.1.length (a.1.map aA) a.2.1 a.2.2 c.length)
  (fun i a=>a.1=(c.take i).flatMap (chL al s)∧a.2.1=((c.take i).any fun x=>x.2.1)∧a.2.2=((c.take i).any fun x => !x.2.1)) (by simp) c.length
  (fun i a hi ha=>by
   obtain ⟨Lm,Ts,Tt⟩:=ha;obtain ⟨⟨t,b,q⟩,hx⟩:∃ x,c[i]? = some x:=⟨_,Aq hi⟩;have hlen:a.1.length≤256*1001:=by
    rw [Lm];have:=aHv hal s (c.take i);rw [mP] at this
    have:min i c.length≤256:=by omega
    omega
   have e1:c.take (i+1)=c.take i++[(t,b,q)]:=by rw [List.take_add_one,hx];rfl
   cases b with
   | true=>exact ⟨(a.1,true,a.2.2),⟨by rw [Lm,e1];simp [chL],by rw [e1];simp,by rw [Tt,e1];simp⟩,aZy (by omega) hx rfl (aN (by omega)) rfl⟩
   | false =>
    have h1:(cL al s t).1≤al.length:=(nV al s t al.length).1;obtain ⟨n',hl⟩:=bTk hal s c a.2.1 i t false q a.1 (by omega)
    exact ⟨(a.1++aLi (cL al s t).1 (cL al s t).2,a.2.1,true),⟨by rw [Lm,e1];simp [chL],by rw [Ts,e1];simp,by rw [e1];simp⟩,aZz (by omega) hx rfl hal (aN (by omega)) hl (aN (by omega)) rfl rfl rfl⟩)
  (fun a _=>bAa (by omega)) (acc:=([],false,false)) (by simp)
 rw [List.take_length] at hI hJ hK
 have hb:=aHv hal s c;have:=bTj (s:=s) hx hL (by rw [hI];omega) (by rw [List.length_mergeSort,hI];omega) (base:=base)
 rw [hI,hJ,hK] at this
 exact this
end
section
variable {s1 s2 x0 x1 bib Aa Ab:Int}{l:Lqq}{i i0 base:Nat}
variable {dl:Int}{sk dc:Lqq}

theorem bFo:((0:Int) != 0)=false:=by first | decide | simp
def tZ(l:Lqq)(x0:Int)(x1:Int)(i:Nat):St:=⟨fr 19 [(0,(.p (fS l))),(3,(.ptr 0 0)),(7,(pI (l.length:Int))),(8,(pI (i:Int)))],[some (.box 80 [(pI x0),(pI x1)])]⟩
theorem bTd{Av:Nat}(hl0:aG Tp 0 (sub (cd Tryz.f179) cf) (tZ l x0 x1 0) .ret (cQ (tZ l x0 x1 Av) [(4,(pI (Av:Int)))])):FV Tp 179 [(.p (fS l)),(.p (.agg [(aA x0),(aA x1)]))] base (pI (Av:Int)) []:=FV.fi func179 [hl0.k 6 (gI [1,2,4,3,9,10] [0])] (gc hl0.code gn)
section
variable(h0:(i:Int)<(l.length:Int))(h1:l[i]? = some [Aa,Ab])(h2:uni 2 l)(h3:dM [(aA x0),(aA x1)] [(0,3,true),(1,3,true)]=true∧dM [(aA Aa),(aA Ab)] [(0,3,true),(1,3,true)]=true)
include h0 h1 h2 h3
theorem aZq(h4:(mM [(aA x0),(aA x1)] [(aA Aa),(aA Ab)] [(0,3,true),(1,3,true)])=true):aC Tp 0 (sub (cd Tryz.f179) cf) (tZ l x0 x1 i) .ret (cQ (tZ l x0 x1 i) [(4,(pI (i:Int)))]):=aC.fi (gI [1,2,5,2,9,10] [0]) [bT,.x (.agg [(aA Aa),(aA Ab)]),bT] (gc h4 (gc h3 (gfl h2 h1 (g0 h0))))
theorem aZr{i':Nat}(h4:(mM [(aA x0),(aA x1)] [(aA Aa),(aA Ab)] [(0,3,true),(1,3,true)])=false)(h5:co i)(Ak:i'=(i+1)):aC Tp 0 (sub (cd Tryz.f179) cf) (tZ l x0 x1 i) .normal (tZ l x0 x1 i'):=by
 subst Ak;exact aC.fi (gI [1,2,4,3,9,10] [0]) [bT,.x (.agg [(aA Aa),(aA Ab)]),bF] (gc h5 (gc h4 (gc h3 (gfl h2 h1 (g0 h0)))))
end
theorem bTe{l:Lqq}(hu:uni 2 l)(hn:(aM l 0).Nodup)(hl:l.length≤1000){i:Nat}{x0 x1:Int}(hi:l[i]? = some [x0,x1]){base:Nat}:FV Tp 179 [.p (fS l),.p (.agg [aA x0,aA x1])] base (pI (i:Int)) []:=by
 have hlt:=bA hi;refine bTd (Av:=i) ?_;have hne:∀ j,j<i→∃ y0 y1,l[j]? = some [y0,y1]∧y0≠x0:=fun j hj=>by
  obtain ⟨y0,y1,hy⟩:=at2 hu (i:=j) (by omega)
  refine ⟨y0,y1,hy,fun e => ?_⟩
  have e1:(aM l 0)[j]? = some y0:=by unfold aM;rw [eX,hy];rfl
  have e2:(aM l 0)[i]? = some x0:=by unfold aM;rw [eX,hi];rfl
  obtain ⟨N3,Dx⟩:=Bc.1 e1;obtain ⟨Ih,Fy⟩:=Bc.1 e2;have:=List.pairwise_iff_getElem.1 hn j i N3 Ih hj;rw [Dx,Fy] at this
  exact this e
 exact aG.until (P:=Tp) i (fun j=>tZ l x0 x1 j) i (dH _)
  (fun j hj=>by
   obtain ⟨y0,y1,hy,hn⟩:=hne j hj;exact aZr (by omega) hy hu ⟨rfl,rfl⟩ (by simp [mM,aCx];exact fun h=>absurd h.symm hn) (aN (by omega)) rfl)
  (aZq (by omega) hi hu ⟨rfl,rfl⟩ (by simp [mM,aCx])) (by simp)
theorem rZ(h:cT dl sk dc):uni 2 (aB sk)∧(aB sk).length≤30∧(∀ s∈aB sk,-1≤s.getD 1 0∧s.getD 1 0≤360000)∧(aM (aB sk) 0).Nodup:=by
 have hp:=eW sk;refine ⟨lF h.us,by rw [fV];exact h.len.2,fun s hs=>(zC.1 (h.hsk s (hp.mem_iff.1 hs))).2,?_⟩
 unfold aM;exact (hp.map _).nodup_iff.2 h.ns
theorem aSv(h:cT dl sk dc)(ho:(aV dl (aB dc)).length≤8){base:Nat}:FV Tp 91 [qY dl (aB sk) (aB dc)] base (.tup [.own base,.p (aA 0)]) [(base,.row 232 (bR dl (aB sk) (aB dc)).length ((bR dl (aB sk) (aB dc)).map hpE).flatten)]:=by
 obtain ⟨h1,h2,h3,_⟩:=rZ h;exact bTm (kL h) h1 (by omega) h3 ho
theorem bLa(h:cT dl sk dc){i:Nat}{x0 x1:Int}(hi:(aB sk)[i]? = some [x0,x1]){base:Nat}:FV Tp 179 [.p (fS (aB sk)),.p (.agg [aA x0,aA x1])] base (pI (i:Int)) []:=by
 obtain ⟨h1,h2,_,h4⟩:=rZ h;exact bTe h1 h4 (by omega) hi
section
variable(h0:cT dl sk dc)(h1:bGe (aB sk) bib=(i0:Int))(h2:(aB sk)[i0]? = some [s1,s2])(h3:(aV dl (aB dc)).length≤8)
include h0 h1 h2 h3
theorem bTf:FV Tp 132 [(.p (.agg (dQ dl sk dc))),(pI bib)] base (.tup [(.p (.sl ((bR dl (aB sk) (aB dc)).length) (((bR dl (aB sk) (aB dc)).map hpE).flatten))),(pI (i0:Int)),(pI 0)]) []:=have k1:=fk 1 (bGf h0 h1 h2) rfl;have k2:=fk 2 (aSv h0 h3) rfl;FV.frz (FMM.fi 0 ⟨[],[],[2],[]⟩ func132 [k1.o,bF,k2.o,.x (.sl ((aB sk).length) ((aB sk).flatten.map aA)),.c (pI (i0:Int)) []] (gc (fk 3 (bLa h0 h2) rfl) (gr (.sl ((aB sk).length) ((aB sk).flatten.map aA)) (gc k2 (gc bFo (gc k1 gn)))))) (by kernel_rfl)
theorem bTg{c3:List bZ}{Tk Tl:Int}{r0:Bool}(h4:(bR dl (aB sk) (aB dc))[i0]? = some (c3,Tk,Tl))(h5:(bR dl (aB sk) (aB dc)).length≤1000)(h6:c3.length≤256)(An:r0=(c3.any fun x=>x.2.1)):FV Tp 68 [(.p (.agg (dQ dl sk dc))),(pI bib)] base (.tup [(.p (aH (oY (bR dl (aB sk) (aB dc)) i0 c3))),(pB r0),(pI 0)]) []:=by
 subst An;have k1:=fk 1 (bTf h0 h1 h2 h3) rfl;have k2:=fk 1 (aPv h5 h4 h6) rfl;exact FV.fi func68 [k1.o,bF,k2.o] (gc k2 (gc bFo (gc k1 gn)))
end
end
section
variable {a b:Bool}{f fi Aa Ab Jt Ju:Int}{l o:List Int}{i i' base:Nat}
variable {dl:Int}{sk dc:Lqq}

noncomputable abbrev aHs:Code:=pS (cd Tryz.f47) 7 [0,1,0,0]
theorem bFm:((0:Int) != 0)=false:=by first | decide | simp
theorem bSy{x0:Int}{r0:Bool}(h0:b=true)(h1:a=false)(h2:inR ((l.length:Int)-1))(h3:l[((l.length:Int)-1).toNat]? = some x0)(h4:0≤((l.length:Int)-1))(An:r0=(decide (x0≤f))):FV Tp 133 [(.p (aH l)),(pB a),(pB b),(.rp [(aA f)] 0)] base (pB r0) []:=by
 subst An;exact FV.fi func133 (rT 9++[.x (aA x0),bT,.x (aA f),bT,bT]) (Bn (cE h1) (gr (aA f) (gc (cE h1) (gt ((l.map aA)[(((l.length:Int)-1).toNat*1)]? = some (aA x0)) (fD (i:=((l.length:Int)-1).toNat) h3) (gc (cE h1) (gc (iF (g:=aA) h4 h3) (gc (cE h1) (gc h2 (Ba (cE h1) (Aw h0 gn))))))))))
theorem bSz(h0:b=true)(h1:a=true):FV Tp 133 [(.p (aH l)),(pB a),(pB b),(.rp [(aA f)] 0)] base (pB false) []:=FV.fi func133 ([bT,bT,bT]++rF 9) (J8 (aW h1) (gc (aW h1) (Aw h0 gn)))
theorem bTa(h0:b=false):FV Tp 133 [(.p (aH l)),(pB a),(pB b),(.rp [(aA f)] 0)] base (pB false) []:=FV.fi func133 [bF,bF,bF] (Aw h0 gn)
def aPu(l:List Int)(a b:Bool)(f:Int):Bool:=b && (!a && decide (l.getD (l.length-1) 0≤f))
theorem bFn(l:List Int)(a b:Bool)(f:Int)(hl:l.length≤1000000)(hb:b=true→l≠[]){base:Nat}:FV Tp 133 [.p (aH l),.p (blP a),.p (blP b),.rp [aA f] 0] base (pB (aPu l a b f)) []:=by
 cases b with
 | false=>exact bTa rfl
 | true =>
  cases a with
  | true=>exact bSz rfl rfl
  | false =>
   have h0:=hb rfl;have h1:0<l.length:=List.length_pos_iff.2 h0;have h2:l[l.length-1]? = some (l.getD (l.length-1) 0):=by rw [Bm,Aq (by omega)];rfl
   have e:((l.length:Int)-1).toNat=l.length-1:=by omega
   exact bSy (x0:=l.getD (l.length-1) 0) rfl rfl (by show _∧_;omega) (by rw [e];exact h2) (by omega) (by unfold aPu;simp)
def mX(dl:Int)(sk:Lqq)(dc:Lqq)(fi:Int)(on:Nat)(oc:List PV)(i:Nat):St:=⟨fr 58 [(2,(.fn 133 [] [(.rp [(aA fi)] 0)])),(6,(.p dZ)),(7,(pI 0)),(10,(.p (.sl ((bR dl (aB sk) (aB dc)).length) (((bR dl (aB sk) (aB dc)).map hpE).flatten)))),(11,(.own 0)),(36,(.p (.sl ((aB sk).length) ((aB sk).flatten.map aA)))),(37,(pI ((aB sk).length:Int))),(38,(pI (i:Int)))],[some (.row 3 on oc)]⟩
theorem bTb{Js:List Int}{Ei:Nat}(h0:cT dl sk dc)(h1:(1:Int)≤fi)(h2:(aV dl (aB dc)).length≤8)(Cd:aG Tp 0 aHs (mX dl sk dc fi 0 [] 0) (.exit 0) (mX dl sk dc fi Js.length (Js.map aA) Ei)):FV Tp 47 [(.p (.agg (dQ dl sk dc))),(pI fi),(.fn 133 [] [(.rp [(aA fi)] 0)])] base (.tup [(.p (aH Js)),(pI 0)]) []:=have k1:=fk 1 (kF dl sk dc h0) rfl;have k2:=fk 1 (aSv h0 h2) rfl;FV.frz (FMM.fi 0 ⟨[],[],[0],[]⟩ func47 [k1.o,bF,bF,k2.o,bF,.g 1 ⟨[],[0],[1],[]⟩,.x (.sl ((aB sk).length) ((aB sk).flatten.map aA)),Cd.k 1 (gN aw [1] [(11,3)])] (gc Cd.code (gr (.sl ((aB sk).length) ((aB sk).flatten.map aA)) (gc bFm (gc k2 (gc (aS h1) (gc bFm (gc k1 gn)))))))) (by kernel_rfl)
section
variable{Bz:List bZ}(h0:(i:Int)<((aB sk).length:Int))(h1:(aB sk)[i]? = some [Aa,Ab])(h2:uni 2 (aB sk))(h3:(bR dl (aB sk) (aB dc))[i]? = some (Bz,Jt,Ju))(h4:(bR dl (aB sk) (aB dc)).length≤1000)(h5:Bz.length≤256)(h6:(oY (bR dl (aB sk) (aB dc)) i Bz).length≤1000000)(h7:(Bz.any fun x => !x.2.1)=true→(oY (bR dl (aB sk) (aB dc)) i Bz)≠[])
include h0 h1 h2 h3 h4 h5 h6 h7
theorem aZn{o':List Int}(h8:(aPu (oY (bR dl (aB sk) (aB dc)) i Bz) (Bz.any fun x=>x.2.1) (Bz.any fun x => !x.2.1) fi)=true)(h9:[(aA Aa)].length=1*1∧o.length+1≤1000000)(A5:co i)(Cw:o'.length=(o.length+1))(Cy:o'.map aA=((o.map aA)++[(aA Aa)]))(Ak:i'=(i+1)):aC Tp 0 aHs (mX dl sk dc fi o.length (o.map aA) i) .normal (mX dl sk dc fi o'.length (o'.map aA) i'):=by
 subst Ak;have k1:=fk 2 (aPv h4 h3 h5) rfl;have k2:=fk 2 (bFn (oY (bR dl (aB sk) (aB dc)) i Bz) (Bz.any fun x=>x.2.1) (Bz.any fun x => !x.2.1) fi h6 h7) rfl;rw [Cw,Cy];exact aC.fi (gI aw [3]) [bT,.x (.agg [(aA Aa),(aA Ab)]),k1.o,k2.o,bT] (gc A5 (gc h9 (gc h8 (gc k2 (gc k1 (gfl h2 h1 (g0 h0)))))))
theorem aZo(h8:(aPu (oY (bR dl (aB sk) (aB dc)) i Bz) (Bz.any fun x=>x.2.1) (Bz.any fun x => !x.2.1) fi)=false)(h9:co i)(Ak:i'=(i+1)):aC Tp 0 aHs (mX dl sk dc fi o.length (o.map aA) i) .normal (mX dl sk dc fi o.length (o.map aA) i'):=by
 subst Ak;have k1:=fk 2 (aPv h4 h3 h5) rfl;have k2:=fk 2 (bFn (oY (bR dl (aB sk) (aB dc)) i Bz) (Bz.any fun x=>x.2.1) (Bz.any fun x => !x.2.1) fi h6 h7) rfl;exact aC.fi (gI aw [0]) [bT,.x (.agg [(aA Aa),(aA Ab)]),k1.o,k2.o,bF] (gc h9 (gc h8 (gc k2 (gc k1 (gfl h2 h1 (g0 h0))))))
end
theorem aZp(h0:((aB sk).length:Int)≤(i:Int)):aC Tp 0 aHs (mX dl sk dc fi o.length (o.map aA) i) (.exit 0) (mX dl sk dc fi o.length (o.map aA) i):=aC.fi (gI aw [0]) [bF] (gc (aS h0) gn)
abbrev bVq(dl:Int)(sk dc:Lqq)(fi:Int)(o:List Int)(e:Int):Prop:=∀ base:Nat,FV Tp 47 [.p (.agg (dQ dl sk dc)),.p (aA fi),.fn 133 [] [.rp [aA fi] 0]] base (.tup [.p (aH o),.p (aA e)]) []
theorem bTc{e0:Int}{o1:List Int}(h0:bVq dl sk dc fi o1 e0):FV Tp 69 [(.p (.agg (dQ dl sk dc))),(pI fi)] base (.tup [(.p (aH o1)),(pI e0)]) []:=FV.fi func69 [.g 3 ⟨[],[0],[1],[]⟩,.x (aA fi),.c (.tup [(.p (aH o1)),(pI e0)]) []] (gc (fk 1 (h0 _) rfl) (gr (aA fi) gn))
end
end KV
end Go.Proofs
section
namespace Go.Proofs
open Go.RowKit Go.Lib
namespace KV
open Tryz
theorem bKx(o:List Int):iQ o≠[]:=fun h=>by
 have:=vN o;rw [h] at this
 have:=Nat.two_pow_pos o.length;simp at *
 omega
theorem bFj(l:List bZ):∀ m,l.foldl (fun m x=>if x.1<m then x.1 else m) m≤m∧∀ x∈l,l.foldl (fun m x=>if x.1<m then x.1 else m) m≤x.1:=by
 induction l with
 | nil=>intro m;exact ⟨aNr _,fun x h=>by cases h⟩
 | cons a l ih =>
  intro m;rw [tN];obtain ⟨h1,h2⟩:=ih (if a.1<m then a.1 else m)
  have ha:(if a.1<m then a.1 else m)≤m∧(if a.1<m then a.1 else m)≤a.1:=by split <;> omega
  exact ⟨by omega,fun x hx=>by
   rcases gX.1 hx with rfl | hx
   ·omega
   ·exact h2 x hx⟩
theorem bFk(l:List bZ):∀ m,m≤l.foldl (fun m x=>if x.1 > m then x.1 else m) m∧∀ x∈l,x.1≤l.foldl (fun m x=>if x.1 > m then x.1 else m) m:=by
 induction l with
 | nil=>intro m;exact ⟨aNr _,fun x h=>by cases h⟩
 | cons a l ih =>
  intro m;rw [tN];obtain ⟨h1,h2⟩:=ih (if a.1 > m then a.1 else m)
  have ha:m≤(if a.1 > m then a.1 else m)∧a.1≤(if a.1 > m then a.1 else m):=by split <;> omega
  exact ⟨by omega,fun x hx=>by
   rcases gX.1 hx with rfl | hx
   ·omega
   ·exact h2 x hx⟩
theorem bKy{l:List bZ}(h:l≠[]):mnM l≤mxM l:=by
 obtain ⟨x,hx⟩:=List.exists_mem_of_ne_nil l h;exact Int.le_trans ((bFj l far).2 x hx) ((bFk l 0).2 x hx)
theorem bKz(dl:Int)(dc:Lqq)(s0 s1:Int)(o:List Int):(nW dl dc s0 s1 o).2.1≤(nW dl dc s0 s1 o).2.2:=bKy fun h=>bKx o (List.map_eq_nil_iff.1 h)
theorem aFc(dl:Int)(sk dc:Lqq):(bR dl sk dc).length=sk.length:=by unfold bR;simp
theorem aLf{dl:Int}{sk dc:Lqq}{i:Nat}{s:List Int}(h:sk[i]? = some s):(bR dl sk dc)[i]? = some (nW dl dc (s.getD 0 0) (s.getD 1 0) (uA dl dc (s.getD 0 0))):=by
 unfold bR;rw [eX,h];rfl
theorem aLg{dl:Int}{dc:Lqq}{s0 s1:Int}(b:Int)(ho:(aV dl dc).length≤8):(nW dl dc s0 s1 (uA dl dc b)).1.length≤256:=by
 show ((iQ (uA dl dc b)).map _).length≤256;rw [eI,vN];have:=bFq dl dc b;exact fM (Nat.pow_le_pow_right (by omega) (show (uA dl dc b).length≤8 by omega)) (by decide)
theorem aSt{al:List eO}(h:∀ x∈al,x.2.1≤x.2.2)(s:Nat)(t:Int):∀ i,(iA al s t i).1≤(iA al s t i).2
 | 0=>dH _
 | i+1=>by
  have ih:=aSt h s t i;unfold iA
  split
  ·rename_i x hx
   have:=h x (Bi hx)
   split
   ·exact ih
   ·dsimp only
    split <;> split <;> omega
  ·exact ih
theorem aPt{l:List Int}(h:l≠[]):Lib.compact l≠[]:=fun e=>by
 have:(Lib.compact l).length=0:=by rw [e];rfl
 unfold Lib.compact Lib.compactUpTo at this
 rw [eI] at this
 have h0:0∈(List.range l.length).filter (Lib.keeps l.toArray):=wI.2 ⟨wJ.2 (List.length_pos_iff.2 h),Lib.keeps_lt_one _ 0 (by omega)⟩
 rw [aDa this] at h0
 cases h0
theorem bFl{al:List eO}(h:∀ x∈al,x.2.1≤x.2.2)(s:Nat){c:List bZ}(hc:(c.any fun x => !x.2.1)=true):oY al s c≠[]:=by
 unfold oY;refine aPt fun e => ?_
 have e2:c.flatMap (chL al s)=[]:=by
  have:=List.length_mergeSort (le:=KL.leB) (c.flatMap (chL al s));rw [e] at this
  exact aDa this.symm
 obtain ⟨x,hx,hn⟩:=List.any_eq_true.1 hc;have h1:chL al s x=[]:=List.flatMap_eq_nil_iff.1 e2 x hx;have hf:x.2.1=false:=by simpa using hn
 unfold chL aLi at h1
 rw [hf] at h1
 have:=congrArg List.length h1;have hl:=aSt h s x.1 al.length;simp at this
 have h3:(cL al s x.1).1≤(cL al s x.1).2:=hl;omega
theorem aSu{al:List eO}(hal:al.length≤1000)(s:Nat){c:List bZ}(hc:c.length≤256):(oY al s c).length≤1000000:=by
 unfold oY;refine fM (aCh _) ?_;rw [List.length_mergeSort];have:=aHv hal s c;omega
theorem aLh(dl:Int)(sk dc:Lqq):∀ x∈bR dl sk dc,x.2.1≤x.2.2:=fun x hx=>by
 obtain ⟨s,_,rfl⟩:=dS.1 hx;exact bKz ..
end KV
end Go.Proofs
end
namespace Go.Proofs
namespace KV
open Tryz
section
def yB(dl:Int)(sk dc:Lqq)(f:Int)(i:Nat):Bool:=match (bR dl sk dc)[i]? with
 | some h=>aPu (oY (bR dl sk dc) i h.1) (h.1.any fun x=>x.2.1) (h.1.any fun x => !x.2.1) f
 | none=>false
def aLe(dl:Int)(sk dc:Lqq)(f:Int):List Int:=((List.range sk.length).filter (yB dl sk dc f)).map fun i=>(sk.getD i []).getD 0 0
theorem bSv{dl:Int}{sk dc:Lqq}(h:cT dl sk dc){bib:Int}{i:Nat}{s0 s1:Int}(hp:bGe (aB sk) bib=(i:Int))(hs:(aB sk)[i]? = some [s0,s1])(ho:(aV dl (aB dc)).length≤8){base:Nat} :
  FV Tp 68 [.p (.agg (dQ dl sk dc)),.p (aA bib)] base (.tup [.p (aH (oY (bR dl (aB sk) (aB dc)) i (nW dl (aB dc) s0 s1 (uA dl (aB dc) s0)).1)),.p (blP ((nW dl (aB dc) s0 s1 (uA dl (aB dc) s0)).1.any fun x=>x.2.1)),.p (aA 0)]) []:=by
 obtain ⟨_,h2,_,_⟩:=rZ h;exact bTg h hp hs ho (aLf hs) (by rw [aFc];omega) (aLg s0 ho) rfl
theorem bSw{dl:Int}{sk dc:Lqq}(h:cT dl sk dc){f:Int}(hf:1≤f)(ho:(aV dl (aB dc)).length≤8):bVq dl sk dc f (aLe dl (aB sk) (aB dc) f) 0:=fun base=>by
 obtain ⟨h1,h2,_,_⟩:=rZ h;obtain ⟨o,hI,hL⟩:=aG.ex (P:=Tp) (k:=0) (b:=sub (cd Tryz.f47) b5) (e := .exit 0) (fun i (o:List Int)=>mX dl sk dc f o.length (o.map aA) i) (fun o=>mX dl sk dc f o.length (o.map aA) (aB sk).length)
  (fun i o=>o=((List.range i).filter (yB dl (aB sk) (aB dc) f)).map fun i=>((aB sk).getD i []).getD 0 0) (by simp) (aB sk).length
  (fun i o hi hoE=>by
   obtain ⟨y0,y1,hy⟩:=at2 h1 hi;have hat:=aLf (dl:=dl) (dc:=aB dc) hy;have hlen:o.length≤i:=by
    rw [hoE,eI];have:=yK (yB dl (aB sk) (aB dc) f) (List.range i);simpa using this
   have hmb:yB dl (aB sk) (aB dc) f i=aPu (oY (bR dl (aB sk) (aB dc)) i (nW dl (aB dc) y0 y1 (uA dl (aB dc) y0)).1) ((nW dl (aB dc) y0 y1 (uA dl (aB dc) y0)).1.any fun x=>x.2.1) ((nW dl (aB dc) y0 y1 (uA dl (aB dc) y0)).1.any fun x => !x.2.1) f:=by
    unfold yB;rw [hat];rfl
   have hal:(bR dl (aB sk) (aB dc)).length≤1000:=by rw [aFc];omega
   have hc:=aLg (s0:=y0) (s1:=y1) y0 ho;have hg:((aB sk).getD i []).getD 0 0=y0:=by simp [Bm,hy]
   cases hb:yB dl (aB sk) (aB dc) f i with
   | true =>
    refine ⟨o++[y0],?_,aZn (by omega) hy h1 hat hal hc (aSu hal i hc) (fun hn=>bFl (aLh _ _ _) i hn) (by rw [← hb,hmb];rfl) ⟨rfl,by omega⟩ (aN (by omega)) (by simp) (by simp) rfl⟩
    rw [hoE,List.range_succ,sC,fL];simp only [List.filter_cons,hb,if_true,List.filter_nil,gY,List.map_nil,hg]
   | false =>
    refine ⟨o,?_,aZo (by omega) hy h1 hat hal hc (aSu hal i hc) (fun hn=>bFl (aLh _ _ _) i hn) (by rw [← hb,hmb];rfl) (aN (by omega)) rfl⟩
    rw [hoE,List.range_succ,sC,fL];simp [List.filter_cons,hb])
  (fun o _=>aZp (by omega)) (acc:=[]) (by simp)
 have e:o=aLe dl (aB sk) (aB dc) f:=hI;rw [← e];exact bTb h hf ho hL
theorem bSx{dl:Int}{sk dc:Lqq}(h:cT dl sk dc){f:Int}(hf:1≤f)(ho:(aV dl (aB dc)).length≤8){base:Nat}:FV Tp 69 [.p (.agg (dQ dl sk dc)),.p (aA f)] base (.tup [.p (aH (aLe dl (aB sk) (aB dc) f)),.p (aA 0)]) []:=bTc (bSw h hf ho)
end
section
variable {c Ag C8 Aa Ab Ac Ad Ae Af:Int}{a b:Lqq}{i i' Av base:Nat}

noncomputable abbrev wY:Code:=sub (cd Tryz.f70) [1,1,0,1,0,0]
noncomputable abbrev wZ:Code:=sub (cd Tryz.f38) [1,1,0,1,0,0]
theorem bSn{dl:Int}{sk dc:Lqq}{bib:Int}{i0:Nat}{s1 s2 n3:Int}{b4:Bool}{T5:Lqb}(h0:cT dl sk dc)(h1:bGe (aB sk) bib=(i0:Int))(h2:(aB sk)[i0]? = some [s1,s2])(h3:aDg dl (aB sk) (aB dc) dZ [s1,s2] n3 b4 ([]:Lqb) T5):FV Tp 65 [(.p (.agg (dQ dl sk dc))),(pI bib)] base (.tup [(pI n3),(pB b4),(pI 0)]) []:=have k1:=fk 1 (bGf h0 h1 h2) rfl;have k2:=mN [] 2 (aHq (dl:=dl) (sk:=(aB sk)) (dc:=(aB dc)));have k3:=mq [2,3,4,5,6,7,8] 10 h3;FV.fi func65 [k1.o,bF,k2.o,k3.o] (gc k3 (gc k2 (gt (((0:Int) != 0)=false) (by first | decide | simp) (gc k1 gn))))
def jZ(a:Lqq)(b:Lqq)(i:Nat):St:=⟨fr 26 [(0,(.p (fS a))),(1,(.p (fS b))),(12,(pI (a.length:Int))),(13,(pI (i:Int)))],[]⟩
theorem bSo(h0:(a.length:Int)≠(b.length:Int)):FV Tp 70 [(.p (fS a)),(.p (fS b))] base (pB false) []:=FV.fi func70 [bT] (gc (qL h0) gn)
theorem bSp(h0:(a.length:Int)=(b.length:Int))(A4:aG Tp 0 wY (jZ a b 0) (.exit 0) (jZ a b Av)):FV Tp 70 [(.p (fS a)),(.p (fS b))] base (pB true) []:=FV.fi func70 [bF,A4.k 4 (gZ cb)] (gc A4.code (gc (eY h0) gn))
theorem bSq(h0:(a.length:Int)=(b.length:Int))(A4:aG Tp 0 wY (jZ a b 0) .ret (cQ (jZ a b Av) [(4,(.kb false))])):FV Tp 70 [(.p (fS a)),(.p (fS b))] base (pB false) []:=FV.fi func70 [bF,A4.k 4 (gZ cb)] (gc A4.code (gc (eY h0) gn))
section
variable(h0:(i:Int)<(a.length:Int))(h1:a[i]? = some [Aa,Ab,Ac])(h2:uni 3 a)(h3:b[i]? = some [Ad,Ae,Af])(h4:uni 3 b)(h5:dM [(aA Aa),(aA Ab),(aA Ac)] [(0,3,true),(1,3,true),(2,3,true)]=true∧dM [(aA Ad),(aA Ae),(aA Af)] [(0,3,true),(1,3,true),(2,3,true)]=true)
include h0 h1 h2 h3 h4 h5
theorem aZh(h6:(mM [(aA Aa),(aA Ab),(aA Ac)] [(aA Ad),(aA Ae),(aA Af)] [(0,3,true),(1,3,true),(2,3,true)])=false):aC Tp 0 wY (jZ a b i) .ret (cQ (jZ a b i) [(4,(.kb false))]):=aC.fi (gZ [2,2,5,7,14,12]) [bT,.x (.agg [(aA Aa),(aA Ab),(aA Ac)]),.x (.agg [(aA Ad),(aA Ae),(aA Af)]),bT] (gc (cE h6) (gc h5 (gfl h4 h3 (gfl h2 h1 (g0 h0)))))
theorem aZi(h6:(mM [(aA Aa),(aA Ab),(aA Ac)] [(aA Ad),(aA Ae),(aA Af)] [(0,3,true),(1,3,true),(2,3,true)])=true)(h7:co i)(Ak:i'=(i+1)):aC Tp 0 wY (jZ a b i) .normal (jZ a b i'):=by
 subst Ak;exact aC.fi (gZ cb) [bT,.x (.agg [(aA Aa),(aA Ab),(aA Ac)]),.x (.agg [(aA Ad),(aA Ae),(aA Af)]),bF] (gc h7 (gc (aW h6) (gc h5 (gfl h4 h3 (gfl h2 h1 (g0 h0))))))
end
theorem aZj(h0:(a.length:Int)≤(i:Int)):aC Tp 0 wY (jZ a b i) (.exit 0) (jZ a b i):=aC.fi (gZ cb) [bF] (gc (aS h0) gn)
theorem bSr(a b:Lqq)(ha:uni 3 a)(hb:uni 3 b)(hl:a.length≤1000){base:Nat}:FV Tp 70 [.p (fS a),.p (fS b)] base (pB (decide (a=b))) []:=by
 by_cases hlen:a.length=b.length
 ·have eqx:∀ i,i<a.length→∃ x y,a[i]? = some x∧b[i]? = some y∧x.length=3∧y.length=3:=fun i hi =>
   ⟨a[i],b[i],Aq hi,Aq (by omega),ha _ (gJ hi),hb _ (gJ (by omega))⟩
  rcases aG.find (P:=Tp) (k:=0) (b:=wY) (fun i=>jZ a b i) (fun i _=>cQ (jZ a b i) [(4,.kb false)]) (jZ a b a.length) .ret (.exit 0) (by simp) (by simp) (fun j=>decide (a.getD j []≠b.getD j [])) (List.range a.length)
   (fun i x hx hp=>by
    have hi:i<a.length:=by have:=bA hx;simpa using this
    obtain ⟨y,z,hy,hz,ly,lz⟩:=eqx i hi;obtain ⟨a,b,c,rfl⟩:=Eh ly;obtain ⟨a',b',c',rfl⟩:=Eh lz;have hxi:x=i:=by rw [aGn hi] at hx;exact (Option.some.inj hx).symm
    subst hxi;have he:=of_decide_eq_false hp;simp only [Bm,hy,hz,Option.getD_some,ne_eq,Classical.not_not] at he
    cases he;exact aZi (by omega) hy ha hz hb ⟨rfl,rfl⟩ (by simp [mM,aCx]) (aN (by omega)) rfl)
   (fun i x hx hp=>by
    have hi:i<a.length:=by have:=bA hx;simpa using this
    obtain ⟨y,z,hy,hz,ly,lz⟩:=eqx i hi;obtain ⟨a,b,c,rfl⟩:=Eh ly;obtain ⟨a',b',c',rfl⟩:=Eh lz;have hxi:x=i:=by rw [aGn hi] at hx;exact (Option.some.inj hx).symm
    subst hxi;have he:=of_decide_eq_true hp;simp only [Bm,hy,hz,Option.getD_some] at he
    exact aZh (by omega) hy ha hz hb ⟨rfl,rfl⟩ (by
     rw [Bool.eq_false_iff];intro h;simp [mM,aCx] at h
     exact he (by simp [h])))
   (by rw [bHt];exact aZj (by omega)) with ⟨i,x,h1,h2,h3,h4⟩ | ⟨h1,h2,h3⟩
  ·have hi:i<a.length:=by have:=bA h1;simpa using this
   have hxi:x=i:=by rw [aGn hi] at h1;exact (Option.some.inj h1).symm
   have he:=of_decide_eq_true h3;rw [decide_eq_false (fun e=>he (by rw [e]))]
   exact bSq (by omega) h4
  ·have hall:∀ i,i<a.length→a.getD i []=b.getD i []:=fun i hi=>by
    have:=List.any_eq_false.1 h2 i (wJ.2 hi);simpa using this
   have e:a=b:=by
    apply List.ext_getElem hlen;intro i h1 h2;have:=hall i h1;simpa [Bm,Aq h1,Aq h2] using this
   rw [decide_eq_true e];exact bSp (by omega) h3
 ·rw [decide_eq_false (fun e=>hlen (by rw [e]))]
  exact bSo (by omega)
def kA(a:List Int)(b:List Int)(i:Nat):St:=⟨fr 26 [(0,(.p (aH a))),(1,(.p (aH b))),(12,(pI (a.length:Int))),(13,(pI (i:Int)))],[]⟩
theorem bSs{a b:List Int}(h0:(a.length:Int)≠(b.length:Int)):FV Tp 38 [(.p (aH a)),(.p (aH b))] base (pB false) []:=FV.fi func38 [bT] (gc (qL h0) gn)
theorem bSt{a b:List Int}(h0:(a.length:Int)=(b.length:Int))(A4:aG Tp 0 wZ (kA a b 0) (.exit 0) (kA a b Av)):FV Tp 38 [(.p (aH a)),(.p (aH b))] base (pB true) []:=FV.fi func38 [bF,A4.k 4 (gZ cb)] (gc A4.code (gc (eY h0) gn))
theorem bSu{a b:List Int}(h0:(a.length:Int)=(b.length:Int))(A4:aG Tp 0 wZ (kA a b 0) .ret (cQ (kA a b Av) [(4,(.kb false))])):FV Tp 38 [(.p (aH a)),(.p (aH b))] base (pB false) []:=FV.fi func38 [bF,A4.k 4 (gZ cb)] (gc A4.code (gc (eY h0) gn))
section
variable{a b:List Int}(h0:(i:Int)<(a.length:Int))(h1:a[i]? = some Ag)(h2:b[i]? = some C8)
include h0 h1 h2
theorem aZk(h3:Ag≠C8):aC Tp 0 wZ (kA a b i) .ret (cQ (kA a b i) [(4,(.kb false))]):=aC.fi (gZ [2,2,5,7,14,12]) [bT,.x (aA Ag),.x (aA C8),bT] (gc (qL h3) (gc (atm aA h2) (gc (ixn aA h2) (gc (atm aA h1) (gc (ixn aA h1) (g0 h0))))))
theorem aZl(h3:Ag=C8)(h4:co i)(Ak:i'=(i+1)):aC Tp 0 wZ (kA a b i) .normal (kA a b i'):=by
 subst Ak;exact aC.fi (gZ cb) [bT,.x (aA Ag),.x (aA C8),bF] (gc h4 (gc (eY h3) (gc (atm aA h2) (gc (ixn aA h2) (gc (atm aA h1) (gc (ixn aA h1) (g0 h0)))))))
end
theorem aZm{a b:List Int}(h0:(a.length:Int)≤(i:Int)):aC Tp 0 wZ (kA a b i) (.exit 0) (kA a b i):=aC.fi (gZ cb) [bF] (gc (aS h0) gn)
theorem bFi(a b:List Int)(hl:a.length≤1000){base:Nat}:FV Tp 38 [.p (aH a),.p (aH b)] base (pB (decide (a=b))) []:=by
 by_cases hlen:a.length=b.length
 ·rcases aG.find (P:=Tp) (k:=0) (b:=wZ) (fun i=>kA a b i) (fun i _=>cQ (kA a b i) [(4,.kb false)]) (kA a b a.length) .ret (.exit 0) (by simp) (by simp) (fun j=>decide (a.getD j 0≠b.getD j 0)) (List.range a.length)
   (fun i x hx hp=>by
    have hi:i<a.length:=by have:=bA hx;simpa using this
    have hxi:x=i:=by rw [aGn hi] at hx;exact (Option.some.inj hx).symm
    subst hxi;have h1:a[x]? = some (a.getD x 0):=by rw [Bm,Aq hi];rfl
    have h2:b[x]? = some (b.getD x 0):=by rw [Bm,Aq (by omega)];rfl
    have he:=of_decide_eq_false hp;exact aZl (by omega) h1 h2 (Classical.not_not.1 he) (aN (by omega)) rfl)
   (fun i x hx hp=>by
    have hi:i<a.length:=by have:=bA hx;simpa using this
    have hxi:x=i:=by rw [aGn hi] at hx;exact (Option.some.inj hx).symm
    subst hxi;have h1:a[x]? = some (a.getD x 0):=by rw [Bm,Aq hi];rfl
    have h2:b[x]? = some (b.getD x 0):=by rw [Bm,Aq (by omega)];rfl
    exact aZk (by omega) h1 h2 (of_decide_eq_true hp))
   (by rw [bHt];exact aZm (by omega)) with ⟨i,x,h1,h2,h3,h4⟩ | ⟨h1,h2,h3⟩
  ·have he:=of_decide_eq_true h3
   rw [decide_eq_false (fun e=>he (by rw [e]))]
   exact bSu (by omega) h4
  ·have hall:∀ i,i<a.length→a.getD i 0=b.getD i 0:=fun i hi=>by
    have:=List.any_eq_false.1 h2 i (wJ.2 hi);simpa using this
   have e:a=b:=by
    apply List.ext_getElem hlen;intro i h1 h2;have:=hall i h1
    rwa [Bm,Bm,Aq h1,Aq h2] at this
   rw [decide_eq_true e];exact bSt (by omega) h3
 ·rw [decide_eq_false (fun e=>hlen (by rw [e]))]
  exact bSs (by omega)
theorem aHr{a b:Int}:FV Tp 130 [(pI a),(pI b),(pI c)] base (.p (dcE a 0 0 b c 0)) []:=FV.fi func130 [] gn
theorem gQ{a b d e:Int}:FV Tp 131 [(pI a),(pI b),(pI c),(pI d),(pI e)] base (.p (dcE a b d 0 e c)) []:=FV.fi func131 [] gn
end
section
theorem ofO(l:List Int):FMM Tp 8 [.p (.sl l.length (l.map cG))] [] (.ptr 0 0) [some (jC l 0 17)]:=bVm
def bRb(ns nd:Int)(l:List Int)(nx st:Int)(r:Lqq × Lqq × Int × Int):Prop :=
 cT 30 r.1 r.2.1∧(r.1.length:Int)≤ns∧(r.2.1.length:Int)≤nd∧(0≤r.2.2.1∧r.2.2.1≤4000)∧(r.1.Pairwise fun a b=>a.getD 0 0<b.getD 0 0)∧(r.2.1.Pairwise fun a b=>a.getD 0 0<b.getD 0 0)∧(∀ x∈r.2.1,x.getD 0 0≤80)∧(∀ x∈r.1,x.getD 0 0≤88∧x.getD 1 0≤16000) ∧
  FMM Tp 7 [.ptr 0 0,.p (aA ns),.p (aA nd)] [some (jC l nx st)] (.p (.agg (dQ 30 r.1 r.2.1))) [some (jC l r.2.2.1 r.2.2.2)]
open Classical in
noncomputable def aXm(ns nd:Int)(l:List Int)(nx st:Int):Lqq × Lqq × Int × Int:=if h:∃ r,bRb ns nd l nx st r then Classical.choose h else ([],[],0,0)
theorem aLb{ns nd:Int}{l:List Int}{nx st:Int}(hns:1≤ns∧ns≤30)(hnd:0≤nd∧nd≤40)(hnx:0≤nx∧nx≤900):bRb ns nd l nx st (aXm ns nd l nx st):=by
 obtain ⟨sk,dc,mx,tt,h⟩:=bRe (ns:=ns) (nd:=nd) (l:=l) (nx:=nx) (st:=st) hns hnd hnx;have hex:∃ r,bRb ns nd l nx st r:=⟨(sk,dc,mx,tt),h⟩;unfold aXm;rw [dif_pos hex];exact Classical.choose_spec hex
theorem bEq{sk dc:Lqq}{Hw Ah:Int}(ns nd:Int)(l:List Int)(nx st:Int)(h:0≤nx∧nx≤900)(hs:1≤ns∧ns≤30)(hd:0≤nd∧nd≤40)(e:aXm ns nd l nx st=(sk,dc,Hw,Ah)):FMM Tp 7 [.ptr 0 0,.p (aA ns),.p (aA nd)] [some (jC l nx st)] (.p (.agg (dQ 30 sk dc))) [some (jC l Hw Ah)]:=by
 have:=(aLb (l:=l) (st:=st) hs hd h).2.2.2.2.2.2.2.2;rw [e] at this
 exact this
end
section
abbrev sB(s:List Int):Int:=s.getD 0 0
abbrev sT(s:List Int):Int:=s.getD 1 0
def iB(dl:Int)(oc:List Int)(dc sk:Lqq):Lqq:=(sk.filter fun s => !(fF dl oc dc (sB s) (sT s)).2).map fun s=>[sB s,0,(fF dl oc dc (sB s) (sT s)).1]
def fQ(dl:Int)(oc:List Int)(dc sk:Lqq):Lqq:=(sk.filter fun s=>(fF dl oc dc (sB s) (sT s)).2).map fun s=>[sB s,-1,0]
def plN(A:Lqq)(t:Int):Int:=match A.getLast? with
 | some y=>if y.getD 2 0=t then y.getD 1 0 else (A.length:Int)+1
 | none=>(A.length:Int)+1
def plS(A:Lqq)(x:List Int):Lqq:=A++[[x.getD 0 0,plN A (x.getD 2 0),x.getD 2 0]]
def iJ(l:Lqq):Lqq:=l.foldl plS []
def bX(dl:Int)(oc:List Int)(dc sk:Lqq):Lqq:=iJ (isort (ltK 2) (iB dl oc dc sk))++fQ dl oc dc sk

theorem bMg(A D:List PV)(a b c v:PV):(A++[a,b,c]++D).set (A.length+1) v=A++[a,v,c]++D:=by
 induction A with
 | nil=>rfl
 | cons x A ih=>simp
theorem zG{L:Lqq}{j:Nat}{a b c:Int}(hu:uni 3 L)(hj:L[j]? = some [a,b,c])(v:Int):(L.flatten.map aA).set (j*3+1) (aA v)=((L.set j [a,v,c]).flatten.map aA):=by
 obtain ⟨hlt,he⟩:=Bc.1 hj;have h0:=vC (k:=3) (i:=j) (x:=[a,b,c]) hu hlt rfl;have h1:=vC (k:=3) (i:=j) (x:=[a,v,c]) hu hlt rfl;have hs:L.set j [a,b,c]=L:=by rw [← he];exact List.set_getElem_self hlt
 rw [hs] at h0
 rw [← h1];have hl:((L.flatten.map aA).take (j*3)).length=j*3:=by
  have:=gG hu hj;rw [mP];omega
 have:=bMg ((L.flatten.map aA).take (j*3)) ((L.flatten.map aA).drop (j*3+3)) (aA a) (aA b) (aA c) (aA v);rw [hl] at this
 conv=>lhs;rw [← h0]
 exact this
theorem bMh(A:Lqq)(x:List Int):(plS A x).length=A.length+1:=by simp [plS]
theorem aTe(l:Lqq):∀ A:Lqq,(l.foldl plS A).length=A.length+l.length:=by
 induction l with
 | nil=>intro A;simp
 | cons x l ih=>intro A;rw [tN,ih,bMh];simp;omega
theorem aId(l:Lqq):∀ A:Lqq,uni 3 A→uni 3 (l.foldl plS A):=by
 induction l with
 | nil=>intro A h;exact h
 | cons x l ih =>
  intro A h;rw [tN];refine ih _ fun y hy => ?_
  unfold plS at hy
  rcases iE.1 hy with hy | hy
  ·exact h y hy
  ·rw [List.mem_singleton.1 hy];rfl
section
variable {dl:Int} {sk dc:Lqq} {oc:List Int} {ov:PV}
theorem aQm(l:Lqq)(hu:uni 3 l)(hl:l.length<1000)(p q:Lqq)(hp:(isort (ltK 2) p).length=l.length)(t:Lqb) :
  aG Tp 7 (sub (cd Tryz.f53) bp) (jG dl sk dc ov p q t l.length (l.flatten.map aA) 0) (.exit 2) (jG dl sk dc ov p q t (iJ l).length ((iJ l).flatten.map aA) l.length):=by
 let St (j:Nat):Lqq:=(l.take j).foldl plS []++l.drop j
 have hlen:∀ j,j≤l.length→((l.take j).foldl plS []).length=j:=fun j hj=>by rw [aTe];simp;omega
 have hlS:∀ j,j≤l.length→(St j).length=l.length:=fun j hj=>by
  show (_++_:Lqq).length=_;rw [lT,hlen j hj,bHu];omega
 have huS:∀ j,uni 3 (St j):=fun j y hy=>by
  rcases iE.1 hy with hy | hy
  ·exact aId _ [] (fun z hz=>by cases hz) y hy
  ·exact hu y (List.mem_of_mem_drop hy)
 have:=aG.count (P:=Tp) (k:=7) (b:=sub (cd Tryz.f53) bp) (e := .exit 2) (R:=jG dl sk dc ov p q t (iJ l).length ((iJ l).flatten.map aA) l.length) l.length
  (fun j=>jG dl sk dc ov p q t (St j).length ((St j).flatten.map aA) j)
  (fun j hj=>by
   have hx:=hu _ (gJ hj);obtain ⟨a,b,c,hx⟩:=Eh hx;have hA:=hlen j (by omega)
   have e1:(l.take (j+1)).foldl plS []=plS ((l.take j).foldl plS []) [a,b,c]:=by
    rw [List.take_add_one,Aq hj,hx];rw [aBa];rfl
   have hdr:l.drop j=[a,b,c]::l.drop (j+1):=by rw [bDb hj,hx]
   have g1:(St j)[j]? = some [a,b,c]:=by
    show ((l.take j).foldl plS []++l.drop j)[j]? = _;rw [aAy (by omega),hA,aVe,hdr];rfl
   have hset:∀ v,(St j).set j [a,v,c]=(l.take j).foldl plS []++[a,v,c]::l.drop (j+1):=fun v=>by
    show ((l.take j).foldl plS []++l.drop j).set j [a,v,c]=_;rw [List.set_append_right _ _ (by omega),hA,aVe,hdr];rfl
   have hnext:St (j+1)=(St j).set j [a,plN ((l.take j).foldl plS []) c,c]:=by
    rw [hset];show (l.take (j+1)).foldl plS []++l.drop (j+1)=_;rw [e1];unfold plS;rw [List.append_assoc];rfl
   have hle:=gG (huS j) g1;have hpl:(j:Int)<((isort (ltK 2) p).length:Int):=by rw [hp];omega
   rw [hnext]
   rcases Nat.eq_zero_or_pos j with h0 | hpos
   ·have hn:plN ((l.take j).foldl plS []) c=(j:Int)+1:=by
     subst h0;rfl
    rw [hn];exact bBa (L:=St j) (L':=(St j).set j [a,((j+1:Nat):Int),c]) (by exact_mod_cast hpl) (aN (by omega)) g1 (by omega) (by omega) (by simp) (zG (huS j) g1 _).symm rfl
   ·have g2:∃ y0 y1 y2,((l.take j).foldl plS []).getLast? = some [y0,y1,y2]∧(St j)[((j:Int)-1).toNat]? = some [y0,y1,y2]:=by
     have hlt:j-1<((l.take j).foldl plS []).length:=by omega
     have h3:=aId (l.take j) [] (fun z hz=>by cases hz) _ (gJ hlt)
     obtain ⟨y0,y1,y2,hy⟩:=Eh h3;refine ⟨y0,y1,y2,?_,?_⟩
     ·rw [List.getLast?_eq_getElem?,hA,Aq hlt,hy]
     ·show ((l.take j).foldl plS []++l.drop j)[((j:Int)-1).toNat]? = _
      rw [show ((j:Int)-1).toNat=j-1 by omega,aAz hlt,Aq hlt,hy]
    obtain ⟨y0,y1,y2,g3,g4⟩:=g2
    by_cases hc:c=y2
    ·have hn:plN ((l.take j).foldl plS []) c=y1:=by
      unfold plN;rw [g3];show (if y2=c then y1 else _)=y1
      rw [if_pos hc.symm]
     rw [hn];have Uf:uni 3 ((St j).set j [a,((j+1:Nat):Int),c]):=aRs (huS j) rfl;have g5:((St j).set j [a,((j+1:Nat):Int),c])[j]? = some [a,((j+1:Nat):Int),c]:=by
      rw [bHq (by rw [hlS j (by omega)];omega)]
     refine bAy (L:=St j) (L':=(St j).set j [a,y1,c]) (by exact_mod_cast hpl) (aN (by omega)) g1 (by omega) (by omega) (huS j) (by show _∧_;omega) g4 (by omega) hc (by rw [tM];omega) (by simp) ?_ rfl
     rw [zG (huS j) g1,zG Uf g5,List.set_set]
    ·have hn:plN ((l.take j).foldl plS []) c=(j:Int)+1:=by
      unfold plN;rw [g3];show (if y2=c then y1 else _)=_
      rw [if_neg (fun h=>hc h.symm),hA]
     rw [hn];exact bAz (L:=St j) (L':=(St j).set j [a,((j+1:Nat):Int),c]) (by exact_mod_cast hpl) (aN (by omega)) g1 (by omega) (by omega) (huS j) (by show _∧_;omega) g4 (by omega) hc (by simp) (zG (huS j) g1 _).symm rfl)
  (by
   have e:St l.length=iJ l:=by
    show (l.take l.length).foldl plS []++l.drop l.length=_;rw [List.take_length,List.drop_length,List.append_nil];rfl
   rw [e];exact bBb (by rw [hp];omega)) (by simp)
 exact this
theorem aFl:(iB dl oc dc sk).length≤sk.length:=by
 unfold iB;rw [eI];exact yK _ _
theorem aCi:(fQ dl oc dc sk).length≤sk.length:=by
 unfold fQ;rw [eI];exact yK _ _
theorem aFm:uni 3 (iB dl oc dc sk):=fun y hy=>by
 obtain ⟨s,_,rfl⟩:=dS.1 hy;rfl
theorem aCj:uni 3 (fQ dl oc dc sk):=fun y hy=>by
 obtain ⟨s,_,rfl⟩:=dS.1 hy;rfl
theorem uD(f:Nat)(l:Lqq):(isort (ltK f) l).length=l.length:=vD _ _
theorem bBg{k f:Nat}{l:Lqq}(h:uni k l):uni k (isort (ltK f) l):=fun y hy=>h y ((wM _ _ y).1 hy)
theorem aCk(l:Lqq):(iJ l).length=l.length:=by unfold iJ;rw [aTe];simp
theorem aQn(l:Lqq):uni 3 (iJ l):=aId l [] fun z hz=>by cases hz
theorem rD:uni 3 (bX dl oc dc sk):=fun y hy=>by
 rcases iE.1 hy with hy | hy
 ·exact aQn _ y hy
 ·exact aCj y hy
theorem aLu{α:Type}(p:α→Bool):∀ l:List α,(l.filter fun x => !p x).length+(l.filter p).length=l.length
 | []=>rfl
 | x::l=>by
  have:=aLu p l;cases h:p x <;> simp [h] <;> omega
theorem bGn:(bX dl oc dc sk).length=sk.length:=by
 unfold bX iB fQ;rw [lT,aCk,uD,eI,eI];exact aLu _ sk
theorem bVu(hd:bV dc)(hov:∀ n,sF ov n (oc.contains n))(hs:uni 2 sk)(hb:∀ x∈sk,skB x=true)(hl:sk.length<20){T:Lqb}(hT:cA dl oc dc T):∃ T',cA dl oc dc T'∧bTy dl sk dc ov (bX dl oc dc sk) T T':=by
 obtain ⟨acc,⟨h1,h2,h3⟩,h4⟩:=aG.ex (P:=Tp) (k:=7) (b:=sub (cd Tryz.f53) ca) (e := .exit 0) (fun i (a:(Lqq × Lqq) × Lqb)=>nE dl sk dc ov a.1.1.length (a.1.1.flatten.map aA) a.1.2.length (a.1.2.flatten.map aA) i (aK a.2) a.2.length)
  (fun a=>nE dl sk dc ov a.1.1.length (a.1.1.flatten.map aA) a.1.2.length (a.1.2.flatten.map aA) sk.length (aK a.2) a.2.length)
  (fun i a=>cA dl oc dc a.2∧a.1.1=iB dl oc dc (sk.take i)∧a.1.2=fQ dl oc dc (sk.take i)) (by simp) sk.length
  (fun i acc hi hI=>by
   obtain ⟨⟨p,q⟩,T1⟩:=acc;obtain ⟨h1,h2,h3⟩:=hI;dsimp only at h1 h2 h3
   have hm:=gJ hi;obtain ⟨a,b,hy⟩:=len2 (hs _ hm);have hx:sk[i]? = some [a,b]:=by rw [Aq hi,hy]
   rw [hy] at hm
   have hr : -1≤b∧b≤360000:=by
    have:=hb _ hm;rw [bQu,Bl] at this
    exact bB.1 this.2
   obtain ⟨T2,q1,q2⟩:=bEs (sk:=sk) hd hov a b hr h1;have hp:p.length≤20:=by rw [h2];have:=aFl (dl:=dl) (oc:=oc) (dc:=dc) (sk:=sk.take i);rw [mP] at this;omega
   have hq:q.length≤20:=by rw [h3];have:=aCi (dl:=dl) (oc:=oc) (dc:=dc) (sk:=sk.take i);rw [mP] at this;omega
   have et:sk.take (i+1)=sk.take i++[[a,b]]:=by rw [List.take_add_one,hx];rfl
   rw [et];have e1:iB dl oc dc (sk.take i++[[a,b]])=p++if (fF dl oc dc a b).2 then [] else [[a,0,(fF dl oc dc a b).1]]:=by
    rw [h2];unfold iB;rw [sC,fL]
    congr 1
    show (List.filter _ [[a,b]]).map _=_;cases hq:(fF dl oc dc a b).2 <;> simp [hq]
   have e2:fQ dl oc dc (sk.take i++[[a,b]])=q++if (fF dl oc dc a b).2 then [[a,-1,0]] else []:=by
    rw [h3];unfold fQ;rw [sC,fL]
    congr 1
    show (List.filter _ [[a,b]]).map _=_;cases hq:(fF dl oc dc a b).2 <;> simp [hq]
   rw [e1,e2];cases hc:(fF dl oc dc a b).2 with
   | true =>
    rw [hc] at q2
    exact ⟨((p,q++[[a,-1,0]]),T2),⟨q1,by simp,by simp⟩,bAv (q:=q) (q':=q++[[a,-1,0]]) (by omega) hx hs q2 rfl ⟨rfl,by omega⟩ (aN (by omega)) (by simp) (by simp) rfl rfl rfl⟩
   | false =>
    rw [hc] at q2
    exact ⟨((p++[[a,0,(fF dl oc dc a b).1]],q),T2),⟨q1,by simp,by simp⟩,bAw (p:=p) (p':=p++[[a,0,(fF dl oc dc a b).1]]) (by omega) hx hs q2 rfl ⟨rfl,by omega⟩ (aN (by omega)) (by simp) (by simp) rfl rfl rfl⟩)
  (fun acc hI=>bAx (by omega)) (acc:=(([],[]),T)) ⟨hT,by simp [iB],by simp [fQ]⟩
 obtain ⟨⟨p,q⟩,T1⟩:=acc;dsimp only at h1 h2 h3 h4
 rw [List.take_length] at h2 h3
 subst h2 h3;have hp:=aFl (dl:=dl) (oc:=oc) (dc:=dc) (sk:=sk);have hq:=aCi (dl:=dl) (oc:=oc) (dc:=dc) (sk:=sk);have hP:=aQm (dl:=dl) (sk:=sk) (dc:=dc) (ov:=ov) (isort (ltK 2) (iB dl oc dc sk)) (bBg aFm) (by rw [uD];omega) (iB dl oc dc sk) (fQ dl oc dc sk) rfl T1
 refine ⟨T1,h1,bTz (Lo:=(bX dl oc dc sk).length) (Dw:=(bX dl oc dc sk).flatten.map aA) h4 aFm (by omega) hP ⟨aBw aCj,by rw [aCk,uD];omega⟩ ?_ ?_⟩
 ·unfold bX;rw [lT]
 ·unfold bX;rw [bDd,fL]
end
theorem aTf{dl:Int}{sk dc:Lqq}(h:cT dl sk dc):∀ x∈aB sk,skB x=true:=fun x hx=>h.hsk x ((eW sk).mem_iff.1 hx)
theorem aQo{dl:Int}{sk dc:Lqq}(h:cT dl sk dc)(hl:sk.length<20){base:Nat}:FV Tp 25 [.p (.agg (dQ dl sk dc))] base (.tup [.own base,.p (aA 0)]) [(base,.row 63 (bX dl [] (aB dc) (aB sk)).length ((bX dl [] (aB dc) (aB sk)).flatten.map aA))]:=by
 obtain ⟨T',h1,h2⟩:=bVu (dl:=dl) (sk:=aB sk) (kL h) aHn (lF h.us) (aTf h) (by rw [fV];exact hl) cA.nil
 exact bUa h h2
theorem bBh{dl:Int}{dc:Lqq}(hd:bV dc):(aV dl dc).length≤1000:=by
 unfold aV;rw [eI];have:=yK (pJ dl dc) dc;have:=hd.len;omega
def vR(u:List Int):Bool:=(List.range u.length).all fun i=>i == 0 || decide (u.getD (i-1) 0<u.getD i 0)
theorem bGo{dl:Int}{sk dc:Lqq}(u:List Int)(hl:u.length≤1000):(vR u=true∧∃ i,aG Tp 0 (sub (cd Tryz.f16) bl) (gT dl sk dc u 1) (.exit 0) (gT dl sk dc u i)) ∨
  (vR u=false∧∃ i,aG Tp 0 (sub (cd Tryz.f16) bl) (gT dl sk dc u 1) .ret (cQ (gT dl sk dc u i) [(4,.p dZ),(5,.p (aA 4))])):=by
 rcases Nat.lt_or_ge u.length 2 with h2 | h2
 ·refine .inl ⟨?_,1,.exit (aFh (by omega)) (by simp)⟩
  unfold vR;rw [fU];intro i hi;have:=wJ.1 hi;have:i=0:=by omega
  subst this;rfl
 ·have hget:∀ i,i<u.length→u[i]? = some (u.getD i 0):=fun i hi=>by rw [Bm,Aq hi];rfl
  have key:∀ d i,i+d=u.length→1≤i→(∀ j,j<i→(j == 0 || decide (u.getD (j-1) 0<u.getD j 0))=true) →
   (vR u=true∧∃ k,aG Tp 0 (sub (cd Tryz.f16) bl) (gT dl sk dc u (i:Int)) (.exit 0) (gT dl sk dc u k)) ∨
   (vR u=false∧∃ k,aG Tp 0 (sub (cd Tryz.f16) bl) (gT dl sk dc u (i:Int)) .ret (cQ (gT dl sk dc u k) [(4,.p dZ),(5,.p (aA 4))])):=by
   intro d
   induction d with
   | zero =>
    intro i hi h1 hj;refine .inl ⟨?_,_,.exit (aFh (by omega)) (by simp)⟩
    unfold vR;rw [fU];intro j hjr;exact hj j (by have:=wJ.1 hjr;omega)
   | succ d ih =>
    intro i hi h1 hj;have g1:u[((i:Nat):Int).toNat]? = some (u.getD i 0):=by rw [aKe];exact hget i (by omega)
    have g2:u[((i:Int)-1).toNat]? = some (u.getD (i-1) 0):=by rw [show ((i:Int)-1).toNat=i-1 by omega];exact hget (i-1) (by omega)
    by_cases hc:u.getD (i-1) 0<u.getD i 0
    ·have hst:=bBd (dl:=dl) (sk:=sk) (dc:=dc) (i:=(i:Int)) (i':=((i+1:Nat):Int)) (by omega) g1 (by omega) (by show _∧_;omega) g2 (by omega) hc (by show _∧_;omega) (by omega)
     rcases ih (i+1) (by omega) (by omega) (fun j Dx=>by
      rcases Nat.lt_or_ge j i with h3 | h3
      ·exact hj j h3
      ·obtain rfl:j=i:=by omega
       rw [decide_eq_true hc,Bool.or_true]) with ⟨q1,k,q2⟩ | ⟨q1,k,q2⟩
     ·exact .inl ⟨q1,k,.step hst q2⟩
     ·exact .inr ⟨q1,k,.step hst q2⟩
    ·refine .inr ⟨?_,_,.exit (bBc (i:=(i:Int)) (by omega) g1 (by omega) (by show _∧_;omega) g2 (by omega) (by omega)) (by simp)⟩
     cases hr:vR u with
     | false=>rfl
     | true =>
      unfold vR at hr
      have:=fU.1 hr i (wJ.2 (by omega))
      rw [show (i == 0)=false by simp;omega,Bool.false_or] at this
      exact absurd (of_decide_eq_true this) hc
  have:=key (u.length-1) 1 (by omega) (by omega) (fun j hj=>by
   have:j=0:=by omega
   subst this;rfl)
  exact this
def bVv(dl:Int)(dc:Lqq)(u:List Int):Int:=if u.all (ocB (aV dl dc)) then (if vR u then 0 else 4) else 1
theorem bUm{dl:Int}{sk dc:Lqq}(h:cT dl sk dc)(hl:sk.length<20)(u:List Int)(hu:u.length≤1000)(he:bVv dl (aB dc) u=0){base:Nat}:FV Tp 16 [.p (.agg (dQ dl sk dc)),.p (aH u)] base (.tup [.own base,.p (aA 0)]) [(base,.row 63 (bX dl u (aB dc) (aB sk)).length ((bX dl u (aB dc) (aB sk)).flatten.map aA))]:=by
 have hd:=kL h;unfold bVv at he
 cases ha:u.all (ocB (aV dl (aB dc))) with
 | false=>rw [ha] at he;simp at he
 | true =>
  rw [ha,if_pos rfl] at he
  rcases bGo (dl:=dl) (sk:=sk) (dc:=dc) u hu with ⟨q1,i,q2⟩ | ⟨q1,i,q2⟩
  ·obtain ⟨T',h1,h2⟩:=bVu (dl:=dl) (sk:=aB sk) hd (aCa hu) (lF h.us) (aTf h) (by rw [fV];exact hl) cA.nil
   exact bUf h hd hu (fun _ _=>bBh hd) ha q2 h2
  ·rw [q1] at he;simp at he
end
section
variable {P:Program}
theorem FC.close1{f base id ty n:Nat}{cs:List PV}{args Am:List AV}{y:AV}{L:Upd}(h:FC P f Am [] base y L)(ha:fzL id n cs args=Am):FC P f args [(id,.row ty n cs)] base y ((id,.dead)::L):=fun M hb hf h8=>by
 have hoM:=hb _ (jQ ..);subst ha;have fre:∀ j,eL M (base+j)=true→eL (aU M id (some .dead)) (base+j)=true:=fun j hj=>by
  have hne:id≠base+j:=fun e=>by
   have:=cC hj;rw [← e] at this
   exact this _ (aZ.1 hoM)
  unfold eL at hj ⊢
  rw [cI,if_neg hne];exact hj
 exact FM.close1 hoM (h _ (fun p hp=>by cases hp) (by have:=fre 0 (by simpa using hf);simpa using this) (fun j hj=>fre j (h8 j hj)))
end
end KV
end Go.Proofs
