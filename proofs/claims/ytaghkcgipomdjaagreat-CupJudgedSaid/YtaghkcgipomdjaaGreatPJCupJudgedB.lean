/- Parts of the proof of JCupJudged: laws of walks, contracts of functions, plain models. No condition. -/
import Derived.Test.YtaghkcgipomdjaaGreatProg
import Derived.ProofKit
import Derived.Carry
import Derived.Deep.Slices
import Derived.RangeFuncLeaves
import Derived.OwnWalkIn
import Derived.TacticsInMore
import Derived.Shelf.SlSortCmp.WholeK
import Derived.Shelf.SlicesG.Cmp
import Derived.Ground.SlsfProg
import Derived.Ground.SlgcProg
import Derived.Ground.NamesProg
import Derived.Shelf.SlSortCmp.NoneTotal
import Derived.Lib.OwnBridge
import Derived.Shelf.Slices.Clone
import Derived.Test.YtaghkcgipomdjaaGreatPJCupJudgedA
set_option linter.unusedVariables false
set_option linter.unusedSimpArgs false
set_option maxRecDepth 100000
namespace Go.Proofs
namespace KV
open Tryz
section
variable {P:Program} {T:TT} {E:Env} {C C0:Cx} {M M0:Mem} {w w0:World}

def cost(o:Oper):Nat:=match o.op with
 | .alloc _ | .box _ _ | .buildSlice _ _ _ | .makeSlice _ _ _=>1
 | .call c=>match c.callee with
  | .builtin _=>1
  | _=>8
 | _=>0
def ido(ops:List Oper)(base k:Nat):Nat:=base+((ops.take k).map cost).sum

abbrev xJ:=AV × Upd × Option (List Nat)
def aJp(q:xJ):Ft:=⟨q.2.2,q.2.1.map (·.1)⟩

def aZg(o:Oper)(vs:List AV)(m:Mem)(id:Nat):Ask (Option (List Nat)):=fun s=>some (fpQ o vs m id s,s)
theorem bKz{o:Oper}{vs:List AV}{m:Mem}{id:Nat}{s s':AS}{b:Option (List Nat)}(h:aZg o vs m id s=some (b,s')):b=fpQ o vs m id s∧s'=s:=by
 unfold aZg at h
 cases h;exact ⟨rfl,rfl⟩
theorem aSi{o:Oper}{vs:List AV}{m:Mem}{id:Nat}:bV (aZg o vs m id):=fun s r s' e p hp=>by obtain ⟨_,rfl⟩:=bKz e;exact hp
def aSj(P:Program)(T:TT)(E:Env)(ops:List Oper):List Oper→Nat→St→Ask (List Ft × St)
 | [],_,st=>pure ([],st)
 | o::r,id,st=>do
  let go ← iG ops o st
  match go with
  | true=>do
   let vs ← lift (evs st o.op.operands.toList)
   let fp ← aZg o vs st.m id
   let q ← mO P T E o vs st.m id
   let y ← aSj P T E ops r (id+cost o) ⟨put st.t o.dst q.1,upds st.m q.2⟩
   pure (⟨fp,q.2.map (·.1)⟩::y.1,y.2)
  | false=>do
   let y ← aSj P T E ops r (id+cost o) ⟨put st.t o.dst (.tup []),st.m⟩
   pure (⟨some [],[]⟩::y.1,y.2)

def pY(ops:Array Oper):Nat→Nat→Nat→Bool
 | 0,_,_=>false
 | n+1,k,j=>match ops[j]? with
  | some oj=>(oj.after.any fun e=>Region.binds .any e && e.on == k) || oj.after.any fun e=>Region.binds .any e && pY ops n k e.on
  | none=>false
def aJq(ops:Array Oper)(k:Nat)(f:Ft):Nat→List Ft→Bool
 | _,[]=>true
 | j,g::r=>(aSn f g || pY ops 5 k j) && aJq ops k f (j+1) r
def aJr(ops:Array Oper):Nat→List Ft→Bool
 | _,[]=>true
 | k,f::r=>aJq ops k f (k+1) r && aJr ops (k+1) r

def next(o:Oper)(q:xJ)(st:St):St:=⟨put st.t o.dst q.1,upds st.m q.2.1⟩

inductive aSk (P:Program) (T:TT) (E:Env) (ops:List Oper):Nat→List Oper→St→List xJ→St→Prop
 | nil (id:Nat) (st:St):aSk P T E ops id [] st [] st
 | cons (id:Nat) (o:Oper) (l:List Oper) (st:St) (q:xJ) (os:List xJ) (fin:St) (h:qB P T E ops o id st q.1 q.2.1 q.2.2) (hr:aSk P T E ops (id+cost o) l (next o q st) os fin):aSk P T E ops id (o::l) st (q::os) fin

theorem nX{ops:List Oper}:∀ {l:List Oper} {id:Nat} {st:St},bV (aSj P T E ops l id st)
 | [],_,_=>aJ _
 | _::_,_,_=>by
  unfold aSj;refine bG aCf fun _ => ?_
  split
  ·exact aG fun _=>bG aSi fun _=>bG tR fun _=>bG nX fun _=>aJ _
  ·exact bG nX fun _=>aJ _

theorem vD{ops:List Oper}:∀ (l:List Oper) (id:Nat) {st fin:St} {fts:List Ft} {s s':AS},aSj P T E ops l id st s=some ((fts,fin),s')→bB s'→∃ os:List xJ,fts=os.map aJp∧aSk P T E ops id l st os fin
 | [],id,st,fin,fts,s,s',h,g=>by
  obtain ⟨he,rfl⟩:=aI h;cases he;exact ⟨[],rfl,.nil _ _⟩
 | o::l,id,st,fin,fts,s,s',h,g=>by
  unfold aSj at h
  obtain ⟨go,s1,h1,k1⟩:=aD h;cases go with
  | true =>
   obtain ⟨vs,s2,h2,k2⟩:=aD k1;obtain ⟨e2,rfl⟩:=aF h2;obtain ⟨au,sa,ha,ka⟩:=aD k2;obtain ⟨rfl,rfl⟩:=bKz ha;obtain ⟨q,s3,h3,k3⟩:=aD ka;obtain ⟨y,s4,h4,k4⟩:=aD k3;obtain ⟨he,rfl⟩:=aI k4;cases he;obtain ⟨os,e5,hl⟩:=vD l _ (fts:=y.1) (fin:=y.2) h4 g;have g3:=nX.good h4 g;exact ⟨(q.1,q.2,fpQ o vs st.m id sa)::os,by rw [iK,e5];rfl,.cons _ _ _ _ (q.1,q.2,fpQ o vs st.m id sa) _ _ ⟨s,sa,.inr ⟨h1,vs,s3,e2,h3,g3,rfl⟩⟩ hl⟩
  | false =>
   obtain ⟨y,s4,h4,k4⟩:=aD k1;obtain ⟨he,rfl⟩:=aI k4;cases he;obtain ⟨os,e5,hl⟩:=vD l _ (fts:=y.1) (fin:=y.2) h4 g;exact ⟨(.tup [],[],some [])::os,by rw [iK,e5];rfl,.cons _ _ _ _ (.tup [],[],some []) _ _ ⟨s,s1,.inl ⟨h1,nX.good h4 g,rfl,rfl,rfl⟩⟩ hl⟩

def pZ(P:Program)(T:TT)(E:Env)(ops:List Oper)(base:Nat)(out:Nat→xJ)(fin:St):Nat→Array Bool→St→Prop
 | 0,listed,st=>Region.ready .any ops.toArray listed=[]∧st=fin
 | fuel+1,listed,st=>(Region.ready .any ops.toArray listed=[]→st=fin) ∧
  ∀ j∈Region.ready .any ops.toArray listed,∃ o,ops[j]? = some o∧qB P T E ops o (ido ops base j) st (out j).1 (out j).2.1 (out j).2.2∧pZ P T E ops base out fin fuel (listed.setIfInBounds j true) (next o (out j) st)

def aBq(ops:List Oper)(listed:Array Bool):Prop:=∀ j oj,ops[j]? = some oj→listed.getD j false=true→∀ e∈oj.after,Region.binds .any e=true→listed.getD e.on false=true

theorem aHg{ops:List Oper}{listed:Array Bool}{i:Nat}(hc:aBq ops listed)(hi:listed.getD i false=false):∀ (n j:Nat),(∀ oj,ops[j]? = some oj→∀ e∈oj.after,Region.binds .any e=true→listed.getD e.on false=true)→pY ops.toArray n i j=false
 | 0,_,_=>rfl
 | n+1,j,h=>by
  unfold pY;cases hj:ops[j]? with
  | none=>simp [hj]
  | some oj =>
   simp only [List.getElem?_toArray,hj,Bool.or_eq_false_iff];refine ⟨?_,?_⟩
   ·rw [Bool.eq_false_iff]
    intro hw;obtain ⟨e,he,hb⟩:=Array.any_eq_true'.1 hw;simp only [Bw,beq_iff_eq] at hb
    have:=h oj hj e he hb.1;rw [hb.2,hi] at this
    cases this
   ·rw [Bool.eq_false_iff]
    intro hw;obtain ⟨e,he,hb⟩:=Array.any_eq_true'.1 hw;simp only [Bw] at hb
    have h1:=h oj hj e he hb.1;rw [aHg hc hi n e.on (fun o ho e' Jp Al=>hc e.on o ho h1 e' Jp Al)] at hb
    cases hb.2

theorem aBr{ops:List Oper}{listed:Array Bool}{j:Nat}(hc:aBq ops listed)(hj:∀ oj,ops[j]? = some oj→∀ e∈oj.after,Region.binds .any e=true→listed.getD e.on false=true):aBq ops (listed.setIfInBounds j true):=fun k ok hk hl e he hb=>by
 refine getD_set_true ?_
 by_cases h:j=k
 ·subst h;exact hj ok hk e he hb
 ·rw [getD_set_ne false h] at hl
  exact hc k ok hk hl e he hb

theorem pZ.first{ops:List Oper}{base:Nat}{out:Nat→xJ}{fin:St}{i:Nat}{oi:Oper}(hi:ops[i]? = some oi):∀ (fuel:Nat) (listed:Array Bool) (st:St),
  (∀ j oj,ops[j]? = some oj→j≠i→listed.getD j true=false→(∀ e∈oj.after,Region.binds .any e=true→e.on≠i)→oi.apart ops.toArray oj=true∧(aSn (aJp (out i)) (aJp (out j))=true∨pY ops.toArray 5 i j=true))→aBq ops listed →
  i∈Region.ready .any ops.toArray listed→qB P T E ops oi (ido ops base i) st (out i).1 (out i).2.1 (out i).2.2→pZ P T E ops base out fin fuel (listed.setIfInBounds i true) (next oi (out i) st)→pZ P T E ops base out fin (fuel+1) listed st:=by
 intro fuel
 induction fuel with
 | zero =>
  intro listed st _ _ hr hs H;refine ⟨fun h=>(by rw [h] at hr;cases hr),fun j hj => ?_⟩
  by_cases hji:j=i
  ·subst hji;exact ⟨oi,hi,hs,H⟩
  ·have:=ready_mono hj hji
   rw [H.1] at this
   cases this
 | succ fuel ih =>
  intro listed st hfree hcl hr hs H;refine ⟨fun h=>(by rw [h] at hr;cases hr),fun j hj => ?_⟩
  by_cases hji:j=i
  ·subst hji;exact ⟨oi,hi,hs,H⟩
  ·obtain ⟨oj,hoj,hsj,hH⟩:=H.2 j (ready_mono hj hji)
   obtain ⟨hjun,K8,Lh,hall⟩:=mem_ready.1 hj;have:K8=oj:=by
    rw [List.getElem?_toArray,hoj] at Lh
    cases Lh;rfl
   subst this;have hnot:∀ e∈K8.after,Region.binds .any e=true→e.on≠i:=fun e he hb heq=>by
    have h1:=hall e he hb;have h0:=(mem_ready.1 hr).1;rw [heq] at h1
    rcases Nat.lt_or_ge i listed.size with h' | h'
    ·simp [h'] at h0 h1;rw [h0] at h1;cases h1
    ·simp [Array.getElem?_eq_none h'] at h1
   have Jq:listed.getD j true=false:=by
    rcases Nat.lt_or_ge j listed.size with h' | h'
    ·simpa [h'] using hjun
    ·exact hjun
   obtain ⟨hap,hok⟩:=hfree j K8 hoj hji Jq hnot;have hjall:∀ oj,ops[j]? = some oj→∀ e∈oj.after,Region.binds .any e=true→listed.getD e.on false=true:=fun o ho e he hb=>by
    rw [hoj] at ho;cases ho;exact hall e he hb
   have hiun:listed.getD i false=false:=by
    have h0:=(mem_ready.1 hr).1
    rcases Nat.lt_or_ge i listed.size with h' | h'
    ·simp [h'] at h0 ⊢;exact h0
    ·simp [Nat.not_lt.2 h']
   replace hok:=hok.resolve_right (by rw [aHg hcl hiun 5 j hjall];simp)
   obtain ⟨m1,m2,m3,m4⟩:=qB.move hap hok hs hsj;have hnx:next K8 (out j) (next oi (out i) st)=next oi (out i) (next K8 (out j) st):=by
    unfold next;simp only [m3,m4]
   refine ⟨K8,hoj,m1,ih _ _ (fun k ok hk hki hun hno=>hfree k ok hk hki ?_ hno) (aBr hcl hjall) (ready_mono hr (Ne.symm hji)) m2 ?_⟩
   ·by_cases hjk:j=k
    ·subst hjk;exact Jq
    ·rw [getD_set_ne true hjk] at hun;exact hun
   ·rw [hnx,Array.setIfInBounds_comm _ _ (Ne.symm hji)] at hH
    exact hH

theorem bLa{ops:List Oper}{base k:Nat}{o:Oper}(h:ops[k]? = some o):ido ops base (k+1)=ido ops base k+cost o:=by
 unfold ido;rw [List.take_add_one,h];simp [Nat.add_assoc]

theorem pZ.lex{ops:List Oper}{base:Nat}{out:Nat→xJ}{fin:St}:∀ (l:List Oper) (k:Nat) (listed:Array Bool) (st:St) (os:List xJ),(∀ j,l[j]? = ops[k+j]?)→(∀ j q,os[j]? = some q→out (k+j)=q)→(∀ j,j<k→listed.getD j true=true)→aBq ops listed →
  (∀ i j,k≤i→i<j→(ops[j]?).isSome→aSn (aJp (out i)) (aJp (out j))=true∨pY ops.toArray 5 i j=true) →
  Region.lexFrom .any ops.toArray l.length k listed=true→aSk P T E ops (ido ops base k) l st os fin→pZ P T E ops base out fin l.length listed st
 | [],k,listed,st,os,_,_,_,_,_,hB,h=>by
  cases h;exact ⟨by simpa [Region.lexFrom] using hB,rfl⟩
 | o::l,k,listed,st,os,hl,ho,hk,hcl,hA,hB,h=>by
  cases h with
  | cons _ _ _ _ q os _ hs hr =>
   have h0:ops[k]? = some o:=by simpa using (hl 0).symm
   have hq:out k=q:=ho 0 q rfl;simp only [oF,Region.lexFrom,Bw] at hB
   obtain ⟨⟨hrd,hf⟩,Om⟩:=hB;have Q1:ops.toArray[k]? = some o:=by rw [List.getElem?_toArray];exact h0
   have Lk:k∈Region.ready .any ops.toArray listed:=by simpa using hrd
   have hkall:∀ oj,ops[k]? = some oj→∀ e∈oj.after,Region.binds .any e=true→listed.getD e.on false=true:=fun o' Dj e he hb=>by
    obtain ⟨_,o2,Jr,hall⟩:=mem_ready.1 Lk;rw [Q1] at Jr;cases Jr
    rw [h0] at Dj;cases Dj
    exact hall e he hb
   refine pZ.first h0 l.length listed st (fun j oj hj hjk hun hno => ?_) hcl Lk (by rw [hq];exact hs) ?_
   ·refine ⟨Region.free_spec Q1 hf j oj (by rw [List.getElem?_toArray];exact hj) hjk hun hno,?_⟩
    have hlt:k<j:=by
     rcases Nat.lt_trichotomy k j with h1 | h1 | h1
     ·exact h1
     ·exact absurd h1.symm hjk
     ·rw [hk j h1] at hun;cases hun
    exact hA k j (dJ _) hlt (by rw [hj];rfl)
   ·rw [hq]
    refine pZ.lex l (k+1) _ _ os (fun j=>by have:=hl (j+1);simpa [Nat.add_assoc,Nat.add_comm 1 j] using this) (fun j q' hj=>by have:=ho (j+1) q' (by simpa using hj);rw [← this];congr 1;omega) (fun j hj => ?_) (aBr hcl hkall)
     (fun i j hi=>hA i j (by omega)) Om (by rw [bLa h0];exact hr)
    by_cases e:k=j
    ·subst e
     rcases Nat.lt_or_ge k listed.size with h' | h'
     ·simp [h']
     ·simp [Nat.not_lt.2 h']
    ·rw [getD_set_ne true e];exact hk j (by omega)

theorem zF{ops:Array Oper}{k:Nat}{f:Ft}:∀ (l:List Ft) (j:Nat),aJq ops k f j l=true→∀ i g,l[i]? = some g→aSn f g=true∨pY ops 5 k (j+i)=true
 | [],_,_,i,g,h=>by simp at h
 | x::l,j,h,i,g,hi=>by
  unfold aJq at h
  rw [Bw,aKm] at h
  cases i with
  | zero=>simp at hi;subst hi;exact h.1
  | succ i =>
   have:=zF l (j+1) h.2 i g (by simpa using hi)
   rwa [show j+1+i=j+(i+1) by omega] at this
theorem qA{ops:Array Oper}:∀ (l:List Ft) (k:Nat),aJr ops k l=true→∀ i j f g,i<j→l[i]? = some f→l[j]? = some g→aSn f g=true∨pY ops 5 (k+i) (k+j)=true
 | [],_,_,i,j,f,g,_,h,_=>by simp at h
 | x::l,k,h,i,j,f,g,hij,hi,hj=>by
  unfold aJr at h
  rw [Bw] at h
  cases j with
  | zero=>omega
  | succ j =>
   cases i with
   | zero =>
    simp at hi;subst hi
    have:=zF l (k+1) h.1 j g (by simpa using hj)
    rwa [show k+1+j=k+(j+1) by omega] at this
   | succ i =>
    have:=qA l (k+1) h.2 i j f g (by omega) (by simpa using hi) (by simpa using hj)
    rwa [show k+1+i=k+(i+1) by omega,show k+1+j=k+(j+1) by omega] at this

theorem pZ.sound(hT:∀ t i,T t=some i→bX P t=some i)(hE:nY P E){ops:List Oper}{base:Nat}{out:Nat→xJ}{fin:St}{ro:Option Nat}{n:Nat}{Q:Exit→Act→World→Prop}(hQ:∀ a' w',Sim P C0 M0 w0 fin a' w'→Q .normal a' w') :
  ∀ (fuel:Nat) (listed:Array Bool) (st:St) (a:Act) (w:World),pZ P T E ops base out fin fuel listed st→Sim P C0 M0 w0 st a w→wpAnyIn (Fen ro) n P .any ops.toArray Q fuel listed a w
 | 0,listed,st,a,w,h,hs=>⟨h.1,hQ _ _ (h.2 ▸ hs)⟩
 | fuel+1,listed,st,a,w,h,hs=>by
  refine ⟨fun h0=>hQ _ _ (h.1 h0 ▸ hs),fun j hj => ?_⟩
  obtain ⟨o,ho,hst,hr⟩:=h.2 j hj;have:=hst.op hT hE C0 M0 w0 a w hs ro n (wpAnyIn (Fen ro) n P .any ops.toArray Q fuel (listed.setIfInBounds j true)) Q (fun a' w' Bh=>pZ.sound hT hE hQ fuel _ _ _ _ hr Bh)
  unfold wpOpIn;simp only [List.getElem?_toArray,ho];exact this
end
section
variable {P:Program} {T:TT} {E:Env} {C C0:Cx} {M M0:Mem} {w w0:World}

mutual
def fzA(id n:Nat)(cs:List PV):AV→AV
 | .own i=>match Nat.beq i id with
  | true => .p (.sl n cs)
  | false => .own i
 | .arr i off k=>match Nat.beq i id with
  | true => .p (.sl k ((cs.drop off).take (k*(cs.length / n))))
  | false => .arr i off k
 | .ptr i off=>match Nat.beq i id with
  | true => .rp cs off
  | false => .ptr i off
 | .agg l=>jI (fzL id n cs l)
 | .tup l => .tup (fzL id n cs l)
 | .fn f a b => .fn f (fzL id n cs a) (fzL id n cs b)
 | .p x => .p x
 | .rp cs o => .rp cs o
 | .yld l => .yld l
 | .kb b => .kb b
 | .mp i => .mp i
 | .pa i q => .pa i q
 | .any => .any
def fzL(id n:Nat)(cs:List PV):List AV→List AV
 | []=>[]
 | x::r=>fzA id n cs x::fzL id n cs r
end

theorem vB(id n:Nat)(cs:List PV):∀ l:List AV,(fzL id n cs l).length=l.length
 | []=>by simp [fzL]
 | x::r=>by simp [fzL,vB id n cs r]

section
variable {id ty n:Nat} {cs:List PV} (hM:aP P C M w) (ho:M[id]? = some (some (.row ty n cs)))
include hM ho
mutual
theorem aHf:∀ {x:AV} {u:Value},Rep C M w x u→Rep (C.close id true) (aX M id (some .dead)) w (fzA id n cs x) u
 | .own i,u,h=>by
  have hL:=hM.le (cN true ho rfl);simp only [fzA]
  split
  ·rename_i hb
   have:=Nat.eq_of_beq_eq_true hb;subst this;exact .p _ _ (tZ hM ho h)
  ·exact h.mono hL
 | .arr i off k,u,h=>by
  have hL:=hM.le (cN true ho rfl);simp only [fzA]
  split
  ·rename_i hb
   have:=Nat.eq_of_beq_eq_true hb;subst this;cases h with
   | arr _ _ _ u h0 ha hrow =>
    rcases hrow _ ho rfl with ⟨rfl,p,cap,rfl,hc⟩ | ⟨b,cap,rfl,hn,hc,hb⟩
    ·rw [Nat.zero_mul,List.take_zero]
     exact .p _ _ (.sl 0 [] p cap (fun _=>undef) (Nat.zero_le _) hc (fun i h=>by simp at h) (fun i h=>by simp at h) (fun i h=>by simp at h))
    ·rcases hM.row _ _ _ _ ho with ⟨E1,_⟩ | ⟨b',arr,inf,Al,q1,q2,q3,q4,q5,q6,q7,q8⟩
     ·rw [hb] at E1;cases E1
     ·rw [hb] at Al;cases Al
      have hle:cs.length≤arr.size:=by rw [q3,q4];exact Nat.mul_le_mul_right _ q5
      have hlt:∀ i,i<((cs.drop off).take (k*(cs.length / n))).length→off+i<cs.length:=fun i hi=>by simp at hi;omega
      refine .p _ _ (.sl k _ _ cap (fun j=>arr.getD (off+j) undef) hn hc (fun j hj=>⟨b,off,rfl,.inr ⟨rfl,hb⟩,bP q1 (by have:=hlt j hj;omega)⟩) (fun j hj => ?_) (fun j hj=>q8 _ (hlt j hj)))
      simp only [List.getElem_take,List.getElem_drop];exact (q7 _ (hlt j hj)).mono (fun _ h => .inl h) (fun _ _=>rfl)
  ·exact h.mono hL
 | .ptr i off,u,h=>by
  have hL:=hM.le (cN true ho rfl);simp only [fzA]
  split
  ·rename_i hb
   have:=Nat.eq_of_beq_eq_true hb;subst this;obtain ⟨b,rfl,hb⟩:=fX h (iI ho rfl)
   rcases hM.row _ _ _ _ ho with ⟨hn,_⟩ | ⟨b',arr,inf,Al,q1,q2,q3,q4,q5,q6,q7,q8⟩
   ·rw [hb] at hn;cases hn
   ·rw [hb] at Al;cases Al
    have hle:cs.length≤arr.size:=by rw [q3,q4];exact Nat.mul_le_mul_right _ q5
    have:=Rep.rp (C:=C.close i true) (M:=aX M i (some .dead)) (w:=w) cs off b 0 (fun j=>arr.getD j undef) (fun i hi=>⟨.inr ⟨rfl,hb⟩,by rw [gP];exact bP q1 (by omega)⟩) (fun i hi=>(q7 i hi).mono (fun _ h => .inl h) (fun _ _=>rfl)) q8
    rwa [gP] at this
  ·exact h.mono hL
 | .agg l,u,h=>by
  cases h with
  | agg _ vs h0 h1 h2 =>
   simp only [fzA];obtain ⟨q1,q2⟩:=kD (us:=fun i=>vs.getD i undef) h2
   exact kS (fun i hi=>h0 i (by omega)) (by omega) q2
 | .tup l,u,h=>by
  cases h with
  | tup _ vs h1 h2 =>
   simp only [fzA];obtain ⟨q1,q2⟩:=kD (us:=fun i=>vs.getD i undef) h2
   exact .tup _ _ (by omega) q2
 | .fn f a b,u,h=>by
  cases h with
  | fn _ _ _ us vs h1 h2 h3 h4 =>
   simp only [fzA];obtain ⟨q1,q2⟩:=kD (us:=fun i=>us.getD i undef) h3
   obtain ⟨r1,r2⟩:=kD (us:=fun i=>vs.getD i undef) h4
   exact .fn f _ _ us vs (by omega) (by omega) q2 r2
 | .p x,u,h=>by simp only [fzA];exact h.mono (hM.le (cN true ho rfl))
 | .rp cs o,u,h=>by simp only [fzA];exact h.mono (hM.le (cN true ho rfl))
 | .yld l,u,h=>by simp only [fzA];exact h.mono (hM.le (cN true ho rfl))
 | .kb b,u,h=>by simp only [fzA];exact h.mono (hM.le (cN true ho rfl))
 | .mp i,u,h=>by simp only [fzA];exact h.mono (hM.le (cN true ho rfl))
 | .pa i q,u,h=>by simp only [fzA];exact h.mono (hM.le (cN true ho rfl))
 | .any,u,h=>by simp only [fzA];exact .any _
theorem kD:∀ {l:List AV} {us:Nat→Value},(∀ i (h:i<l.length),Rep C M w l[i] (us i))→(fzL id n cs l).length=l.length∧∀ i (h:i<(fzL id n cs l).length),Rep (C.close id true) (aX M id (some .dead)) w (fzL id n cs l)[i] (us i)
 | [],_,_=>⟨vB ..,  fun i h=>by simp [fzL] at h⟩
 | x::r,us,h=>by
  refine ⟨vB ..,fun i hi => ?_⟩
  have:=hM;have:=ho;obtain ⟨_,q2⟩:=kD (l:=r) (us:=fun i=>us (i+1)) (fun i hi=>h (i+1) (by simpa using hi))
  have e:fzL id n cs (x::r)=fzA id n cs x::fzL id n cs r:=by simp only [fzL]
  simp only [e];cases i with
  | zero=>exact aHf (h 0 (by simp))
  | succ i=>exact q2 i (by simpa [vB] using hi)
end
end

def fzO(id n:Nat)(cs:List PV):Option AO→Option AO
 | some (.box ty l)=>some (.box ty (fzL id n cs l))
 | x=>x
def Oi(id:Nat)(st:St):Option St:=match eX st.m id with
 | some r=>some ⟨fzL id r.2.1 r.2.2 st.t,(aX st.m id (some .dead)).map (fzO id r.2.1 r.2.2)⟩
 | none=>none

theorem jC{id n:Nat}{cs:List PV}{m:Mem}{j:Nat}{o':AO}(h:(m.map (fzO id n cs))[j]? = some (some o')):∃ o,m[j]? = some (some o)∧fzO id n cs (some o)=some o':=by
 rw [gF] at h
 cases hm:m[j]? with
 | none=>rw [hm] at h;cases h
 | some x =>
  rw [hm] at h
  cases x with
  | none=>simp [fzO] at h
  | some o=>exact ⟨o,rfl,by simpa using h⟩
theorem aZf{id n:Nat}{cs:List PV}{o:AO}{ty k:Nat}{ds:List PV}(h:fzO id n cs (some o)=some (.row ty k ds)):o = .row ty k ds:=by cases o <;> simp [fzO] at h ⊢;exact h
theorem nW{id n:Nat}{cs:List PV}{o o':AO}(h:fzO id n cs (some o)=some o'):o'.live=o.live:=by cases o <;> (simp [fzO] at h;subst h;rfl)

theorem bCl{id:Nat}{st Aj:St}{a:Act}(hf:Oi id st=some Aj)(hs:Sim P C0 M0 w0 st a w):Sim P C0 M0 w0 Aj a w:=by
 obtain ⟨C,hS,hM,hF,hD⟩:=hs;unfold Oi at hf
 split at hf
 ·rename_i r hr
  cases hf;have ho:=cQ hr;have hk:=cN (C:=C) (w:=w) true ho rfl;have hm:=oB hM true ho rfl;have hL:Le (C.close id true) (C.close id true) (aX st.m id (some .dead)) ((aX st.m id (some .dead)).map (fzO id r.2.1 r.2.2)) w w:=by
   refine ⟨fun i o h => ?_,fun i o h ty n cs hm => ?_,fun i o h o' hm hl => ?_,fun _ h=>h,fun _ _=>rfl⟩
   ·rw [gF,h]
    cases o <;> exact ⟨_,rfl⟩
   ·obtain ⟨o2,h2,h3⟩:=jC hm
    rw [aZf h3] at h2
    exact ⟨_,h2⟩
   ·obtain ⟨o2,h2,h3⟩:=jC hm
    rw [h] at h2;cases h2
    exact ⟨by rw [← nW h3];exact hl,rfl,rfl⟩
  have Iu:Fr (C.close id true) (aX st.m id (some .dead)) w (C.close id true) ((aX st.m id (some .dead)).map (fzO id r.2.1 r.2.2)) w:=by
   refine ⟨rfl,rfl,rfl,dJ _,fun _ _ _=>rfl,fun i o h=>⟨hL.ids i o h,rfl,rfl⟩,hL.row,fun i o h o' hm hl=>(hL.liv i o h o' hm hl).1,fun i o b h hl hb => ?_,fun _ h=>h,fun _ h => .inl h⟩
   obtain ⟨o2,h2,h3⟩:=jC h;exact .inr ⟨i,o2,h2,by rw [← nW h3];exact hl,hb⟩
  refine ⟨C.close id true,⟨?_,fun i hi => ?_⟩,⟨fun i ty n cs h => ?_,fun i ty cs h => ?_,fun i es cl h => ?_,fun i i' o1 o2 b h1 l1 h2 l2 => ?_,fun i o b h hl => ?_,hm.Fs,fun i o b h hl => ?_⟩,(hF.trans hk).trans Iu,(hD.fr hM (fV rfl) hk).fr hm (fun i to ti sz L q=>by
   obtain ⟨o2,h2,h3⟩:=jC q;cases o2 with
   | pk=>simp only [fzO,Option.some.injEq] at h3;rw [← h3];exact h2
   | _=>simp [fzO] at h3) Iu⟩
  ·rw [vB];exact hS.size
  ·exact ((kD hM ho hS.rep).2 i hi).mono hL
  ·obtain ⟨o2,h2,h3⟩:=jC h
   rw [aZf h3] at h2
   exact hm.row _ _ _ _ h2
  ·obtain ⟨o2,h2,h3⟩:=jC h
   cases o2 with
   | box Cc l =>
    simp only [fzO,Option.some.injEq,AO.box.injEq] at h3
    obtain ⟨rfl,rfl⟩:=h3;have hne:i≠id:=fun e=>by
     subst e;rw [aV] at h2;cases h2
    obtain ⟨b,arr,q0,q1,q2,q3,q4⟩:=hM.box _ _ _ ((aN st.m id i _ _ (Ne.symm hne)).1 h2);obtain ⟨r1,r2⟩:=kD hM ho (us:=fun j=>arr.getD j undef) q3
    exact ⟨b,arr,q0,q1,by rw [r1];exact q2,fun j hj=>(r2 j hj).mono hL,fun j hj=>q4 j (by rw [r1] at hj;exact hj)⟩
   | row=>simp [fzO] at h3
   | mp=>simp [fzO] at h3
   | pk=>simp [fzO] at h3
   | dead=>simp [fzO] at h3
  ·obtain ⟨o2,h2,h3⟩:=jC h
   have:o2 = .mp es cl:=by cases o2 <;> simp [fzO] at h3 ⊢;exact h3
   subst this;obtain ⟨b,arr,q0,q1,q2,q3⟩:=hm.mp _ _ _ h2;refine ⟨b,arr,q0,q1,q2,fun j hj => ?_⟩
   obtain ⟨en,r1,r2,r3,r4⟩:=q3 j hj;exact ⟨en,r1,r2,r3,r4.mono hL.F hL.fz⟩
  ·obtain ⟨o3,h3,h4⟩:=jC h1
   obtain ⟨o5,h5,h6⟩:=jC h2;exact hm.inj i i' o3 o5 b h3 (by rw [← nW h4];exact l1) h5 (by rw [← nW h6];exact l2)
  ·obtain ⟨o3,h3,h4⟩:=jC h
   exact hm.nF i o3 b h3 (by rw [← nW h4];exact hl)
  ·obtain ⟨o3,h3,h4⟩:=jC h
   exact hm.lt i o3 b h3 (by rw [← nW h4];exact hl)
 ·cases hf

def forget:List Nat→List AV→List AV
 | [],l=>l
 | i::r,l=>forget r (l.set i .any)
theorem vC:∀ (g:List Nat) {ts:List AV} {us:Array Value},eC C M w ts us→eC C M w (forget g ts) us
 | [],_,_,h=>h
 | i::r,ts,us,h=>by
  refine vC r ⟨by simpa using h.size,fun j hj => ?_⟩
  simp only [lP] at hj
  rw [oG]
  split
  ·exact .any _
  ·exact h.rep j hj
theorem aJo(g:List Nat){st:St}{a:Act}(hs:Sim P C0 M0 w0 st a w):Sim P C0 M0 w0 ⟨forget g st.t,st.m⟩ a w:=by
 obtain ⟨C,hS,hM,hF,hD⟩:=hs;exact ⟨C,vC g hS,hM,hF,hD⟩
end
section
variable {P:Program} {T:TT} {E:Env} {C C0:Cx} {M M0:Mem} {w w0:World}

def Cx.shut(C:Cx)(id:Nat):Cx:={ ι:=C.ι,κ:=C.κ,F:=fun b=>C.F b∨aTc (C.κ id) b }
section
variable {id to ti sz:Nat} {L:List (Nat × List PV)}
variable (q:aTd C M w id to ti sz L) (ho:M[id]? = some (some (.pk to ti sz L))) (hL:Le C (C.shut id) M (aX M id (some .dead)) w w)
include q ho hL
end

def fzP(id:Nat)(st:St):Option St:=none
theorem bCj{id:Nat}{st Aj:St}{a:Act}(h:fzP id st=some Aj)(hs:Sim P C0 M0 w0 st a w):Sim P C0 M0 w0 Aj a w:=by
 unfold fzP at h
 cases h
def nlP(i to ti sz:Nat)(st:St):Option St:=none
theorem bCk{i to ti sz:Nat}{st Aj:St}{a:Act}(h:nlP i to ti sz st=some Aj)(hs:Sim P C0 M0 w0 st a w):Sim P C0 M0 w0 Aj a w:=by
 unfold nlP at h
 cases h
end
section
variable {P:Program} {T:TT} {E:Env} {C C0:Cx} {M M0:Mem} {w w0:World}

inductive Cz where
 | bx (cs:List PV)
 | mp (es:List (Value × PV))
mutual
def czA(id:Nat)(y:Cz):AV→AV
 | .ptr i off=>match Nat.beq i id with
  | true=>match y with
   | .bx cs => .rp cs off
   | .mp _ => .ptr i off
  | false => .ptr i off
 | .mp i=>match Nat.beq i id with
  | true=>match y with
   | .mp es => .p (.mp es)
   | .bx _ => .mp i
  | false => .mp i
 | .agg l=>jI (czL id y l)
 | .tup l => .tup (czL id y l)
 | .fn f a b => .fn f (czL id y a) (czL id y b)
 | .own i => .own i
 | .arr i off k => .arr i off k
 | .p x => .p x
 | .rp cs o => .rp cs o
 | .yld l => .yld l
 | .kb b => .kb b
 | .pa i q => .pa i q
 | .any => .any
def czL(id:Nat)(y:Cz):List AV→List AV
 | []=>[]
 | x::r=>czA id y x::czL id y r
end
theorem vA(id:Nat)(y:Cz):∀ l:List AV,(czL id y l).length=l.length
 | []=>rfl
 | x::r=>by simp only [czL,oF,vA id y r]

def It:AV→Option PV
 | .p x=>some x
 | .kb b=>some (.v (.bool b))
 | .rp cs off=>some (.rp cs off)
 | _=>none
def bCg:List AV→Option (List PV)
 | []=>some []
 | x::r=>match It x with
  | some y=>match bCg r with
   | some l=>some (y::l)
   | none=>none
  | none=>none
theorem aZd:∀ {l:List AV} {cs:List PV},bCg l=some cs→cs.length=l.length∧∀ (i:Nat) (h:i<l.length) (h':i<cs.length),It l[i]=some cs[i]
 | [],cs,h=>by cases h;exact ⟨rfl,fun i h=>by simp at h⟩
 | x::r,cs,h=>by
  unfold bCg at h
  split at h
  ·rename_i y hy
   split at h
   ·rename_i k hk
    cases h;obtain ⟨q1,q2⟩:=aZd hk;refine ⟨by simp [q1],fun i h1 h2 => ?_⟩
    cases i with
    | zero=>exact hy
    | succ i=>exact q2 i (by simpa using h1) (by simpa using h2)
   ·cases h
  ·cases h
theorem bKx{x:AV}{y:PV}{u:Value}(e:It x=some y)(h:Rep C M w x u):bQ C.F w y u:=by
 cases x <;> simp [It] at e
 ·subst e;cases h;assumption
 ·subst e;cases h;exact .rp _ _ _ _ _ ‹_› ‹_› ‹_›
 ·subst e;cases h;exact .v _
def bRo(y:Cz)(o:AO):Prop:=match y with
 | .bx cs=>∃ ty l,o = .box ty l∧bCg l=some cs
 | .mp es=>∃ cl,o = .mp es cl
theorem bRo.live{y:Cz}{o:AO}(h:bRo y o):o.live=true:=by
 cases y with
 | bx cs=>obtain ⟨ty,l,rfl,_⟩:=h;rfl
 | mp es=>obtain ⟨cl,rfl⟩:=h;rfl

section
variable {id:Nat} {y:Cz} {o:AO} (hM:aP P C M w) (ho:M[id]? = some (some o)) (hz:bRo y o)
include hM ho hz
mutual
theorem bCh:∀ {x:AV} {u:Value},Rep C M w x u→Rep (C.close id true) (aX M id (some .dead)) w (czA id y x) u
 | .ptr i off,u,h=>by
  have hL:=hM.le (cN true ho hz.live);simp only [czA]
  split
  ·rename_i hb
   have:=Nat.eq_of_beq_eq_true hb;subst this;cases y with
   | mp es=>exact h.mono hL
   | bx cs =>
    obtain ⟨ty,l,rfl,hl⟩:=hz;obtain ⟨b,rfl,hb⟩:=fX h (iI ho rfl);obtain ⟨b',arr,Al,q1,q2,q3,q4⟩:=hM.box _ _ _ ho;rw [hb] at Al;cases Al
    obtain ⟨r1,r2⟩:=aZd hl;have:=Rep.rp (C:=C.close i true) (M:=aX M i (some .dead)) (w:=w) cs off b 0 (fun j=>arr.getD j undef) (fun i hi=>⟨.inr ⟨rfl,hb⟩,by rw [gP];exact bP q1 (by omega)⟩)
     (fun i hi=>(bKx (r2 i (by omega) hi) (q3 i (by omega))).mono (fun _ h => .inl h) (fun _ _=>rfl)) (fun i hi=>q4 i (by omega))
    rwa [gP] at this
  ·exact h.mono hL
 | .mp i,u,h=>by
  have hL:=hM.le (cN true ho hz.live);simp only [czA]
  split
  ·rename_i hb
   have:=Nat.eq_of_beq_eq_true hb;subst this;cases y with
   | bx cs=>exact h.mono hL
   | mp es =>
    obtain ⟨cl,rfl⟩:=hz;obtain ⟨b,arr,rfl,hb,q1,q2,q3⟩:=aKa hM h (bI.2 ho);refine .p _ _ (.mp es b cl arr (fun j=>(arr.getD j ⟨undef,undef,0⟩).val) (.inr ⟨rfl,hb⟩) q1 q2 (fun j hj => ?_) fun j hj => ?_)
    ·obtain ⟨e,r1,r2,r3,r4⟩:=q3 j hj
     exact ⟨e,r1,r2,r3,by rw [Bm,r1];rfl⟩
    ·obtain ⟨e,r1,r2,r3,r4⟩:=q3 j hj
     rw [Bm,r1];exact r4.mono (fun _ h => .inl h) (fun _ _=>rfl)
  ·exact h.mono hL
 | .agg l,u,h=>by
  cases h with
  | agg _ vs h0 h1 h2 =>
   simp only [czA];obtain ⟨q1,q2⟩:=kC (us:=fun i=>vs.getD i undef) h2
   exact kS (fun i hi=>h0 i (by omega)) (by omega) q2
 | .tup l,u,h=>by
  cases h with
  | tup _ vs h1 h2 =>
   simp only [czA];obtain ⟨q1,q2⟩:=kC (us:=fun i=>vs.getD i undef) h2
   exact .tup _ _ (by omega) q2
 | .fn f a b,u,h=>by
  cases h with
  | fn _ _ _ us vs h1 h2 h3 h4 =>
   simp only [czA];obtain ⟨q1,q2⟩:=kC (us:=fun i=>us.getD i undef) h3
   obtain ⟨r1,r2⟩:=kC (us:=fun i=>vs.getD i undef) h4
   exact .fn f _ _ us vs (by omega) (by omega) q2 r2
 | .own i,u,h=>by simp only [czA];exact h.mono (hM.le (cN true ho hz.live))
 | .arr i off k,u,h=>by simp only [czA];exact h.mono (hM.le (cN true ho hz.live))
 | .p x,u,h=>by simp only [czA];exact h.mono (hM.le (cN true ho hz.live))
 | .rp cs o,u,h=>by simp only [czA];exact h.mono (hM.le (cN true ho hz.live))
 | .yld l,u,h=>by simp only [czA];exact h.mono (hM.le (cN true ho hz.live))
 | .kb b,u,h=>by simp only [czA];exact h.mono (hM.le (cN true ho hz.live))
 | .pa i q,u,h=>by simp only [czA];exact h.mono (hM.le (cN true ho hz.live))
 | .any,u,h=>by simp only [czA];exact .any _
theorem kC:∀ {l:List AV} {us:Nat→Value},(∀ i (h:i<l.length),Rep C M w l[i] (us i))→(czL id y l).length=l.length∧∀ i (h:i<(czL id y l).length),Rep (C.close id true) (aX M id (some .dead)) w (czL id y l)[i] (us i)
 | [],_,_=>by
  have:=hM;have:=ho;have:=hz;exact ⟨vA ..,fun i h=>by simp [czL] at h⟩
 | x::r,us,h=>by
  refine ⟨vA ..,fun i hi => ?_⟩
  obtain ⟨_,q2⟩:=kC (l:=r) (us:=fun i=>us (i+1)) (fun i hi=>h (i+1) (by simpa using hi))
  have e:czL id y (x::r)=czA id y x::czL id y r:=by simp only [czL]
  simp only [e];cases i with
  | zero=>exact bCh (h 0 (by simp))
  | succ i=>exact q2 i (by simpa [vA] using hi)
end
end

def czO(id:Nat)(y:Cz):Option AO→Option AO
 | some (.box ty l)=>some (.box ty (czL id y l))
 | x=>x
def bYc(m:Mem)(id:Nat):Option Cz:=match bN m id with
 | some (.box _ l)=>(bCg l).map .bx
 | some (.mp es _)=>some (.mp es)
 | _=>none
def fzM(id:Nat)(st:St):Option St:=match bYc st.m id with
 | some y=>some ⟨czL id y st.t,(aX st.m id (some .dead)).map (czO id y)⟩
 | none=>none
theorem bKy{m:Mem}{id:Nat}{y:Cz}(h:bYc m id=some y):∃ o,m[id]? = some (some o)∧bRo y o:=by
 unfold bYc at h
 split at h
 ·rename_i ty l ho
  cases hl:bCg l with
  | none=>rw [hl] at h;cases h
  | some cs=>rw [hl] at h;cases h;exact ⟨_,bI.1 ho,ty,l,rfl,hl⟩
 ·rename_i es cl ho
  cases h;exact ⟨_,bI.1 ho,cl,rfl⟩
 ·cases h
theorem jB{id:Nat}{y:Cz}{m:Mem}{j:Nat}{o':AO}(h:(m.map (czO id y))[j]? = some (some o')):∃ o,m[j]? = some (some o)∧czO id y (some o)=some o':=by
 rw [gF] at h
 cases hm:m[j]? with
 | none=>rw [hm] at h;cases h
 | some x =>
  rw [hm] at h
  cases x with
  | none=>simp [czO] at h
  | some o=>exact ⟨o,rfl,by simpa using h⟩
theorem aZe{id:Nat}{y:Cz}{o:AO}{ty k:Nat}{ds:List PV}(h:czO id y (some o)=some (.row ty k ds)):o = .row ty k ds:=by cases o <;> simp [czO] at h ⊢;exact h
theorem nV{id:Nat}{y:Cz}{o o':AO}(h:czO id y (some o)=some o'):o'.live=o.live:=by cases o <;> (simp [czO] at h;subst h;rfl)

theorem bCi{id:Nat}{st Aj:St}{a:Act}(hf:fzM id st=some Aj)(hs:Sim P C0 M0 w0 st a w):Sim P C0 M0 w0 Aj a w:=by
 obtain ⟨C,hS,hM,hF,hD⟩:=hs;unfold fzM at hf
 split at hf
 ·rename_i y hr
  cases hf;obtain ⟨o,ho,hz⟩:=bKy hr;have hk:=cN (C:=C) (w:=w) true ho hz.live;have hm:=oB hM true ho hz.live;have hL:Le (C.close id true) (C.close id true) (aX st.m id (some .dead)) ((aX st.m id (some .dead)).map (czO id y)) w w:=by
   refine ⟨fun i o h => ?_,fun i o h ty n cs hm => ?_,fun i o h o' hm hl => ?_,fun _ h=>h,fun _ _=>rfl⟩
   ·rw [gF,h]
    cases o <;> exact ⟨_,rfl⟩
   ·obtain ⟨o2,h2,h3⟩:=jB hm
    rw [aZe h3] at h2
    exact ⟨_,h2⟩
   ·obtain ⟨o2,h2,h3⟩:=jB hm
    rw [h] at h2;cases h2
    exact ⟨by rw [← nV h3];exact hl,rfl,rfl⟩
  have Iu:Fr (C.close id true) (aX st.m id (some .dead)) w (C.close id true) ((aX st.m id (some .dead)).map (czO id y)) w:=by
   refine ⟨rfl,rfl,rfl,dJ _,fun _ _ _=>rfl,fun i o h=>⟨hL.ids i o h,rfl,rfl⟩,hL.row,fun i o h o' hm hl=>(hL.liv i o h o' hm hl).1,fun i o b h hl hb => ?_,fun _ h=>h,fun _ h => .inl h⟩
   obtain ⟨o2,h2,h3⟩:=jB h;exact .inr ⟨i,o2,h2,by rw [← nV h3];exact hl,hb⟩
  refine ⟨C.close id true,⟨?_,fun i hi => ?_⟩,⟨fun i ty n cs h => ?_,fun i ty cs h => ?_,fun i es cl h => ?_,fun i i' o1 o2 b h1 l1 h2 l2 => ?_,fun i o b h hl => ?_,hm.Fs,fun i o b h hl => ?_⟩,(hF.trans hk).trans Iu,(hD.fr hM (fV rfl) hk).fr hm (fun i to ti sz L q=>by
   obtain ⟨o2,h2,h3⟩:=jB q;cases o2 with
   | pk=>simp only [czO,Option.some.injEq] at h3;rw [← h3];exact h2
   | _=>simp [czO] at h3) Iu⟩
  ·rw [vA];exact hS.size
  ·exact ((kC hM ho hz hS.rep).2 i hi).mono hL
  ·obtain ⟨o2,h2,h3⟩:=jB h
   rw [aZe h3] at h2
   exact hm.row _ _ _ _ h2
  ·obtain ⟨o2,h2,h3⟩:=jB h
   cases o2 with
   | box Cc l =>
    simp only [czO,Option.some.injEq,AO.box.injEq] at h3
    obtain ⟨rfl,rfl⟩:=h3;have hne:i≠id:=fun e=>by
     subst e;rw [aV] at h2;cases h2
    obtain ⟨b,arr,q0,q1,q2,q3,q4⟩:=hM.box _ _ _ ((aN st.m id i _ _ (Ne.symm hne)).1 h2);obtain ⟨r1,r2⟩:=kC hM ho hz (us:=fun j=>arr.getD j undef) q3
    exact ⟨b,arr,q0,q1,by rw [r1];exact q2,fun j hj=>(r2 j hj).mono hL,fun j hj=>q4 j (by rw [r1] at hj;exact hj)⟩
   | row=>simp [czO] at h3
   | mp=>simp [czO] at h3
   | pk=>simp [czO] at h3
   | dead=>simp [czO] at h3
  ·obtain ⟨o2,h2,h3⟩:=jB h
   have:o2 = .mp es cl:=by cases o2 <;> simp [czO] at h3 ⊢;exact h3
   subst this;obtain ⟨b,arr,q0,q1,q2,q3⟩:=hm.mp _ _ _ h2;refine ⟨b,arr,q0,q1,q2,fun j hj => ?_⟩
   obtain ⟨en,r1,r2,r3,r4⟩:=q3 j hj;exact ⟨en,r1,r2,r3,r4.mono hL.F hL.fz⟩
  ·obtain ⟨o3,h3,h4⟩:=jB h1
   obtain ⟨o5,h5,h6⟩:=jB h2;exact hm.inj i i' o3 o5 b h3 (by rw [← nV h4];exact l1) h5 (by rw [← nV h6];exact l2)
  ·obtain ⟨o3,h3,h4⟩:=jB h
   exact hm.nF i o3 b h3 (by rw [← nV h4];exact hl)
  ·obtain ⟨o3,h3,h4⟩:=jB h
   exact hm.lt i o3 b h3 (by rw [← nV h4];exact hl)
 ·cases hf
end
section
variable {P:Program} {T:TT} {E:Env} {C C0:Cx} {M M0:Mem} {w w0:World}

def idx:List Nat→Nat→Nat→Option Nat
 | [],_,_=>none
 | j::r,i,n=>match Nat.beq j i with
  | true=>some n
  | false=>idx r i (n+1)
def rnI(k:Nat)(ids:List Nat)(i:Nat):Option Nat:=match Nat.blt i k with
 | true=>some i
 | false=>idx ids i k
mutual
def mpA(f:Nat→Option Nat):AV→Option AV
 | .own i=>(f i).map .own
 | .arr i off n=>(f i).map fun j => .arr j off n
 | .ptr i off=>(f i).map fun j => .ptr j off
 | .mp i=>(f i).map .mp
 | .pa i q=>(f i).map fun j => .pa j q
 | .agg l=>(mpL f l).map .agg
 | .tup l=>(mpL f l).map .tup
 | .fn g a b=>match mpL f a with
  | some a'=>(mpL f b).map fun b' => .fn g a' b'
  | none=>none
 | .p x=>some (.p x)
 | .rp cs o=>some (.rp cs o)
 | .yld l=>some (.yld l)
 | .kb b=>some (.kb b)
 | .any=>some .any
def mpL(f:Nat→Option Nat):List AV→Option (List AV)
 | []=>some []
 | x::r=>match mpA f x with
  | some y=>(mpL f r).map (y :: ·)
  | none=>none
end
def mpO(f:Nat→Option Nat):AO→Option AO
 | .row ty n cs=>some (.row ty n cs)
 | .box ty l=>(mpL f l).map (.box ty ·)
 | .mp es cl=>some (.mp es cl)
 | .pk to ti sz L=>some (.pk to ti sz L)
 | .dead=>some .dead
def mpM(f:Nat→Option Nat):Mem→Option Mem
 | []=>some []
 | none::r=>(mpM f r).map (none :: ·)
 | some o::r=>match mpO f o with
  | some o'=>(mpM f r).map (some o' :: ·)
  | none=>none
abbrev rnL(k:Nat)(ids:List Nat):=mpL (rnI k ids)
abbrev rnM(k:Nat)(ids:List Nat):=mpM (rnI k ids)
def at?(m:Mem)(i:Nat):Option AO:=bN m i
def distinct(k:Nat):List Nat→Bool
 | []=>true
 | i::r=>match Nat.ble k i with
  | true=>match r.all (fun j => !Nat.beq j i) with
   | true=>distinct k r
   | false=>false
  | false=>false
def firsts(m:Mem):Nat→Nat→Mem
 | 0,_=>[]
 | k+1,i=>at? m i::firsts m k (i+1)
def pick(k:Nat)(ids:List Nat)(st:St):Option St:=match distinct k ids with
 | true=>match rnL k ids st.t with
  | some t=>(rnM k ids (firsts st.m k 0++ids.map (at? st.m))).map (⟨t,·⟩)
  | none=>none
 | false=>none

theorem uY:∀ (ids:List Nat) (i n j:Nat),idx ids i n=some j→n≤j∧ids[j-n]? = some i
 | [],i,n,j,h=>by cases h
 | a::r,i,n,j,h=>by
  unfold idx at h
  split at h
  ·rename_i hb
   cases h;exact ⟨dJ _,by rw [Nat.sub_self];simp [Nat.eq_of_beq_eq_true hb]⟩
  ·obtain ⟨h1,h2⟩:=uY r i (n+1) j h
   refine ⟨by omega,?_⟩
   rw [show j-n=(j-(n+1))+1 by omega]
   simpa using h2
theorem gV{k:Nat}:∀ {ids:List Nat},distinct k ids=true→(∀ i∈ids,k≤i)∧ids.Nodup
 | [],_=>⟨by simp,.nil⟩
 | a::r,h=>by
  unfold distinct at h
  split at h
  ·rename_i h1
   split at h
   ·rename_i h2
    obtain ⟨h3,h4⟩:=gV h;refine ⟨fun i hi => ?_,?_⟩
    ·rcases eO.1 hi with rfl | hi
     ·exact Nat.le_of_ble_eq_true h1
     ·exact h3 i hi
    ·refine List.nodup_cons.2 ⟨fun hm => ?_,h4⟩
     have:=fL.1 h2 a hm;simp at this
   ·cases h
  ·cases h
theorem aHd(m:Mem):∀ (k i j:Nat),j<k→(firsts m k i)[j]? = some (bN m (i+j))
 | 0,i,j,h=>by omega
 | k+1,i,j,h=>by
  unfold firsts;cases j with
  | zero=>simp [at?]
  | succ j =>
   have:=aHd m k (i+1) j (by omega)
   rw [List.getElem?_cons_succ,this,show i+1+j=i+(j+1) by omega]
theorem lY(m:Mem):∀ (k i:Nat),(firsts m k i).length=k
 | 0,_=>rfl
 | k+1,i=>by simp [firsts,lY m k]

def mI(k:Nat)(ids:List Nat)(j:Nat):Option Nat:=if j<k then some j else ids[j-k]?
theorem aJn{k:Nat}{ids:List Nat}{i j:Nat}(h:rnI k ids i=some j):mI k ids j=some i:=by
 unfold rnI at h
 split at h
 ·rename_i hb
  cases h;have:i<k:=by simpa [Nat.blt_eq] using hb
  simp [mI,this]
 ·obtain ⟨h1,h2⟩:=uY _ _ _ _ h
  simp [mI,Nat.not_lt.2 h1,h2]
theorem aZb{k:Nat}{ids:List Nat}(hd:distinct k ids=true){j j' i:Nat}(h:mI k ids j=some i)(h':mI k ids j'=some i):j=j':=by
 obtain ⟨h1,h2⟩:=gV hd;unfold mI at h h'
 split at h <;> split at h'
 ·cases h;cases h';rfl
 ·cases h
  have:=h1 _ (Br h');omega
 ·cases h'
  have:=h1 _ (Br h);omega
 ·obtain ⟨q1,q2⟩:=Bg.1 h
  obtain ⟨q3,q4⟩:=Bg.1 h';have hp:=List.pairwise_iff_getElem.1 h2
  rcases Nat.lt_trichotomy (j-k) (j'-k) with hl | hl | hl
  ·exact absurd (q2.trans q4.symm) (hp _ _ q1 q3 hl)
  ·omega
  ·exact absurd (q4.trans q2.symm) (hp _ _ q3 q1 hl)

def Cx.rn(C:Cx)(k:Nat)(ids:List Nat):Cx:={ ι:=fun j=>(mI k ids j).bind C.ι,κ:=fun j=>match mI k ids j with | some i=>C.κ i | none=>0,F:=C.F }

theorem aBo{f:Nat→Option Nat}:∀ {m m':Mem},mpM f m=some m'→m'.length=m.length∧(∀ (j:Nat) (o':AO),m'[j]? = some (some o')→∃ o,m[j]? = some (some o)∧mpO f o=some o')∧(∀ (j:Nat) (o:AO),m[j]? = some (some o)→∃ o',m'[j]? = some (some o')∧mpO f o=some o')
 | [],m',h=>by cases h;exact ⟨rfl,fun j o h=>by simp at h,fun j o h=>by simp at h⟩
 | none::r,m',h=>by
  unfold mpM at h
  cases hr:mpM f r with
  | none=>rw [hr] at h;cases h
  | some r' =>
   rw [hr] at h;cases h
   obtain ⟨h1,h2,h3⟩:=aBo hr;refine ⟨by simp [h1],fun j o hj => ?_,fun j o hj => ?_⟩
   ·cases j with
    | zero=>simp at hj
    | succ j=>exact h2 j o (by simpa using hj)
   ·cases j with
    | zero=>simp at hj
    | succ j=>exact h3 j o (by simpa using hj)
 | some o::r,m',h=>by
  unfold mpM at h
  split at h
  ·rename_i o' Dj
   cases hr:mpM f r with
   | none=>rw [hr] at h;cases h
   | some r' =>
    rw [hr] at h;cases h
    obtain ⟨h1,h2,h3⟩:=aBo hr;refine ⟨by simp [h1],fun j o hj => ?_,fun j o hj => ?_⟩
    ·cases j with
     | zero=>simp at hj;subst hj;exact ⟨_,rfl,Dj⟩
     | succ j=>exact h2 j o (by simpa using hj)
    ·cases j with
     | zero=>simp at hj;subst hj;exact ⟨_,rfl,Dj⟩
     | succ j=>exact h3 j o (by simpa using hj)
  ·cases h

theorem bM{f:Nat→Option Nat}{o o':AO}(h:mpO f o=some o'):o'.live=o.live:=by
 cases o <;> simp only [mpO,kT,Option.some.injEq] at h
 ·subst h;rfl
 ·obtain ⟨_,_,rfl⟩:=h;rfl
 ·subst h;rfl
 ·subst h;rfl
 ·subst h;rfl
theorem kM{f:Nat→Option Nat}{o:AO}{ty n:Nat}{cs:List PV}(h:mpO f o=some (.row ty n cs)):o = .row ty n cs:=by
 cases o <;> simp only [mpO,kT,Option.some.injEq] at h
 ·exact h
 ·obtain ⟨_,_,h⟩:=h;cases h
 ·cases h
 ·cases h
 ·cases h
structure bCc (f:Nat→Option Nat) (C C':Cx) (M M':Mem):Prop where
 bk:∀ (i j:Nat) (o':AO),f i=some j→M'[j]? = some (some o')→∃ o,M[i]? = some (some o)∧mpO f o=some o'
 fw:∀ (i j:Nat) (o:AO),f i=some j→M[i]? = some (some o)→∃ o',M'[j]? = some (some o')∧mpO f o=some o'
 at_:∀ i j,f i=some j→C'.ι j=C.ι i∧C'.κ j=C.κ i
 F:∀ b,C.F b→C'.F b

section
variable {f:Nat→Option Nat} {C':Cx} {M':Mem} (hm:bCc f C C' M M')
include hm
set_option linter.unusedSectionVars false in
mutual
theorem rU:∀ {x y:AV} {u:Value},Rep C M w x u→mpA f x=some y→Rep C' M' w y u
 | .own i,y,u,h,hr=>by
  simp only [mpA,kT] at hr
  obtain ⟨j,hj,rfl⟩:=hr;cases h with
  | own _ u h0 ha h =>
   obtain ⟨o,ho⟩:=ha;obtain ⟨o',Dj,_⟩:=hm.fw _ _ _ hj ho;refine .own j u h0 ⟨o',Dj⟩ fun ty n cs hx => ?_
   obtain ⟨o2,e2,e3⟩:=hm.bk _ _ _ hj hx;rw [kM e3] at e2
   rw [(hm.at_ _ _ hj).1,(hm.at_ _ _ hj).2];exact h _ _ _ e2
 | .arr i off n,y,u,h,hr=>by
  simp only [mpA,kT] at hr
  obtain ⟨j,hj,rfl⟩:=hr;cases h with
  | arr _ _ _ u h0 ha h =>
   obtain ⟨o,ho⟩:=ha;obtain ⟨o',Dj,_⟩:=hm.fw _ _ _ hj ho;refine .arr j off n u h0 ⟨o',Dj⟩ fun o3 hx hl => ?_
   obtain ⟨o2,e2,e3⟩:=hm.bk _ _ _ hj hx;rw [(hm.at_ _ _ hj).1];exact h _ e2 (by rw [← bM e3];exact hl)
 | .ptr i off,y,u,h,hr=>by
  simp only [mpA,kT] at hr
  obtain ⟨j,hj,rfl⟩:=hr;cases h with
  | ptr _ _ u h0 ha h hp =>
   obtain ⟨o,ho⟩:=ha;obtain ⟨o',Dj,_⟩:=hm.fw _ _ _ hj ho;refine .ptr j off u h0 ⟨o',Dj⟩ (fun o3 hx hl => ?_) hp
   obtain ⟨o2,e2,e3⟩:=hm.bk _ _ _ hj hx;rw [(hm.at_ _ _ hj).1];exact h _ e2 (by rw [← bM e3];exact hl)
 | .mp i,y,u,h,hr=>by
  simp only [mpA,kT] at hr
  obtain ⟨j,hj,rfl⟩:=hr;cases h with
  | mp _ u h0 ha h =>
   obtain ⟨o,ho⟩:=ha;obtain ⟨o',Dj,_⟩:=hm.fw _ _ _ hj ho;refine .mp j u h0 ⟨o',Dj⟩ fun o3 hx hl => ?_
   obtain ⟨o2,e2,e3⟩:=hm.bk _ _ _ hj hx;rw [(hm.at_ _ _ hj).1];exact h _ e2 (by rw [← bM e3];exact hl)
 | .pa i q,y,u,h,hr=>by
  simp only [mpA,kT] at hr
  obtain ⟨j,hj,rfl⟩:=hr;cases h with
  | pa _ _ u h0 ha h =>
   obtain ⟨o,ho⟩:=ha;obtain ⟨o',Dj,_⟩:=hm.fw _ _ _ hj ho;refine .pa j q u h0 ⟨o',Dj⟩ fun o3 hx hl => ?_
   obtain ⟨o2,e2,e3⟩:=hm.bk _ _ _ hj hx;rw [(hm.at_ _ _ hj).2];exact h _ e2 (by rw [← bM e3];exact hl)
 | .agg l,y,u,h,hr=>by
  simp only [mpA,kT] at hr
  obtain ⟨l',hl,rfl⟩:=hr;cases h with
  | agg _ vs h0 h1 h4 =>
   obtain ⟨q1,q2⟩:=fF (us:=fun i=>vs.getD i undef) h4 hl
   exact .agg _ _ (fun i hi=>h0 i (by omega)) (by omega) q2
 | .tup l,y,u,h,hr=>by
  simp only [mpA,kT] at hr
  obtain ⟨l',hl,rfl⟩:=hr;cases h with
  | tup _ vs h1 h4 =>
   obtain ⟨q1,q2⟩:=fF (us:=fun i=>vs.getD i undef) h4 hl
   exact .tup _ _ (by omega) q2
 | .fn g a b,y,u,h,hr=>by
  simp only [mpA] at hr
  split at hr
  ·rename_i a' ha
   simp only [kT] at hr
   obtain ⟨b',hb,rfl⟩:=hr;cases h with
   | fn _ _ _ us vs h1 h4 h5 h6 =>
    obtain ⟨q1,q2⟩:=fF (us:=fun i=>us.getD i undef) h5 ha
    obtain ⟨r1,r2⟩:=fF (us:=fun i=>vs.getD i undef) h6 hb
    exact .fn g _ _ us vs (by omega) (by omega) q2 r2
  ·cases hr
 | .p x,y,u,h,hr=>by simp only [mpA] at hr;cases hr;cases h with | p _ _ h=>exact .p _ _ (h.mono hm.F (fun _ _=>rfl))
 | .rp cs o,y,u,h,hr=>by
  simp only [mpA] at hr;cases hr
  cases h with | rp _ _ b o us h1 h2 h3=>exact .rp cs _ b o us (fun i hi=>⟨hm.F _ (h1 i hi).1,(h1 i hi).2⟩) (fun i hi=>(h2 i hi).mono hm.F (fun _ _=>rfl)) h3
 | .yld l,y,u,h,hr=>by simp only [mpA] at hr;cases hr;cases h;exact .yld _
 | .kb b,y,u,h,hr=>by simp only [mpA] at hr;cases hr;cases h;exact .kb _
 | .any,y,u,h,hr=>by simp only [mpA] at hr;cases hr;exact .any _
theorem fF:∀ {l ys:List AV} {us:Nat→Value},(∀ i (h:i<l.length),Rep C M w l[i] (us i))→mpL f l=some ys→ys.length=l.length∧∀ i (h:i<ys.length),Rep C' M' w ys[i] (us i)
 | [],_,_,_,hr=>by simp only [mpL] at hr;cases hr;exact ⟨rfl,fun i h=>by simp at h⟩
 | x::r,ys,us,h,hr=>by
  simp only [mpL] at hr
  split at hr
  ·rename_i y hy
   simp only [kT] at hr
   obtain ⟨r',Fx,rfl⟩:=hr;obtain ⟨q1,q2⟩:=fF (us:=fun i=>us (i+1)) (fun i hi=>h (i+1) (by simpa using hi)) Fx
   refine ⟨by simp [q1],fun i hi => ?_⟩
   cases i with
   | zero=>exact rU (h 0 (by simp)) hy
   | succ i=>exact q2 i (by simpa using hi)
  ·cases hr
end
end

theorem pX{k:Nat}{ids:List Nat}{M':Mem}(hM:aP P C M w)(hd:distinct k ids=true)(Cu:rnM k ids (firsts M k 0++ids.map (at? M))=some M') :
  aP P (C.rn k ids) M' w∧bCc (rnI k ids) C (C.rn k ids) M M'∧∀ (j:Nat) (o':AO),M'[j]? = some (some o')→∃ i o,mI k ids j=some i∧M[i]? = some (some o)∧mpO (rnI k ids) o=some o':=by
 obtain ⟨g1,g2,g3⟩:=aBo Cu;have hat:∀ (i j:Nat) (o:AO),mI k ids j=some i→((firsts M k 0++ids.map (at? M))[j]? = some (some o)↔M[i]? = some (some o)):=fun i j o hs=>by
  unfold mI at hs
  split at hs
  ·rename_i hj
   cases hs;rw [aFx (by rw [lY];exact hj),aHd _ _ _ _ hj,gP,Option.some.injEq,bI]
  ·rename_i hj
   rw [aKl (by rw [lY];omega),lY,gF,hs,Option.map_some,Option.some.injEq]
   exact bI
 have hsrc:∀ (j:Nat) (o:AO),(firsts M k 0++ids.map (at? M))[j]? = some (some o)→∃ i,mI k ids j=some i:=fun j o hj=>by
  unfold mI
  split
  ·exact ⟨_,rfl⟩
  ·obtain ⟨hl,_⟩:=Bg.1 hj
   rw [kU,lY,Bt] at hl
   exact ⟨_,An (by omega)⟩
 have h2:∀ (j:Nat) (o':AO),M'[j]? = some (some o')→∃ i o,mI k ids j=some i∧M[i]? = some (some o)∧mpO (rnI k ids) o=some o':=fun j o' hj=>by
  obtain ⟨o,q1,q2⟩:=g2 j o' hj;obtain ⟨i,hi⟩:=hsrc j o q1;exact ⟨i,o,hi,(hat i j o hi).1 q1,q2⟩
 have hi:∀ j i,mI k ids j=some i→(C.rn k ids).ι j=C.ι i∧(C.rn k ids).κ j=C.κ i:=fun j i h=>by simp [Cx.rn,h]
 have hmp:bCc (rnI k ids) C (C.rn k ids) M M':=⟨fun i j o' hf hj=>by
  obtain ⟨i',o,q1,q2,q3⟩:=h2 j o' hj;rw [aJn hf] at q1;cases q1
  exact ⟨o,q2,q3⟩,fun i j o hf ho=>g3 j o ((hat i j o (aJn hf)).2 ho),fun i j hf=>hi j i (aJn hf),fun _ h=>h⟩
 refine ⟨⟨fun j ty n cs h => ?_,fun j ty cs h => ?_,fun j es cl h => ?_,fun j j' o1 o2 b q1 l1 q2 l2 e1 e2 => ?_,fun j o b h hl hb => ?_,hM.Fs,fun j o b h hl hb => ?_⟩,hmp,h2⟩
 ·obtain ⟨i,o,q1,q2,q3⟩:=h2 _ _ h
  rw [kM q3] at q2
  obtain ⟨r1,r2⟩:=hi j i q1;rw [r1,r2];exact hM.row _ _ _ _ q2
 ·obtain ⟨i,o,q1,q2,q3⟩:=h2 _ _ h
  obtain ⟨r1,r2⟩:=hi j i q1;cases o with
  | box Cc l =>
   simp only [mpO,kT] at q3
   obtain ⟨l',De,e⟩:=q3;cases e;obtain ⟨b,arr,p0,p1,p2,p3,p4⟩:=hM.box _ _ _ q2;obtain ⟨n1,n2⟩:=fF hmp (w:=w) (us:=fun j=>arr.getD j undef) p3 De
   exact ⟨b,arr,by rw [r1];exact p0,p1,by omega,n2,fun j hj=>p4 j (by omega)⟩
  | row=>simp [mpO] at q3
  | mp=>simp [mpO] at q3
  | pk=>simp [mpO] at q3
  | dead=>simp [mpO] at q3
 ·obtain ⟨i,o,q1,q2,q3⟩:=h2 _ _ h
  obtain ⟨r1,r2⟩:=hi j i q1;cases o with
  | mp Bn B5 =>
   simp only [mpO,Option.some.injEq] at q3
   cases q3;obtain ⟨b,arr,p0,p1,p2,p3⟩:=hM.mp _ _ _ q2;exact ⟨b,arr,by rw [r1];exact p0,p1,p2,p3⟩
  | row=>simp [mpO] at q3
  | box=>simp [mpO] at q3
  | pk=>simp [mpO] at q3
  | dead=>simp [mpO] at q3
 ·obtain ⟨i,o,q3,q4,q5⟩:=h2 _ _ q1
  obtain ⟨i',o',q6,q7,q8⟩:=h2 _ _ q2;rw [(hi _ _ q3).1] at e1
  rw [(hi _ _ q6).1] at e2
  have:=hM.inj i i' o o' b q4 (by rw [← bM q5];exact l1) q7 (by rw [← bM q8];exact l2) e1 e2
  subst this;exact aZb hd q3 q6
 ·obtain ⟨i,o',q3,q4,q5⟩:=h2 _ _ h
  rw [(hi _ _ q3).1] at hb
  exact hM.nF i o' b q4 (by rw [← bM q5];exact hl) hb
 ·obtain ⟨i,o',q3,q4,q5⟩:=h2 _ _ h
  rw [(hi _ _ q3).1] at hb
  exact hM.lt i o' b q4 (by rw [← bM q5];exact hl) hb

theorem aSh{k:Nat}{ids:List Nat}{st Aj:St}{a:Act}(hk:M0.length≤k)(hp:pick k ids st=some Aj)(hs:Sim P C0 M0 w0 st a w):Sim P C0 M0 w0 Aj a w:=by
 obtain ⟨C,hS,hM,hF,hD⟩:=hs;unfold pick at hp
 split at hp
 ·rename_i hd
  split at hp
  ·rename_i t ht
   simp only [kT] at hp
   obtain ⟨M',Cu,rfl⟩:=hp;obtain ⟨Eb,hmp,h2⟩:=pX hM hd Cu;obtain ⟨t1,t2⟩:=fF hmp (w:=w) (us:=fun i=>a.tmps.getD i undef) hS.rep ht
   have hi:∀ j i,mI k ids j=some i→(C.rn k ids).ι j=C.ι i∧(C.rn k ids).κ j=C.κ i:=fun j i h=>by simp [Cx.rn,h]
   have small:∀ (i:Nat) (o:AO),M0[i]? = some (some o)→mI k ids i=some i∧rnI k ids i=some i:=fun i o h=>by
    obtain ⟨hl,_⟩:=Bg.1 h;have hik:i<k:=by omega
    have hb:Nat.blt i k=true:=by rw [Nat.blt_eq];exact hik
    exact ⟨by simp [mI,hik],by simp only [rnI,hb]⟩
   refine ⟨C.rn k ids,⟨by rw [hS.size];exact t1.symm,t2⟩,Eb,
    ⟨hF.os,hF.tape,hF.out,hF.size,hF.keep,fun i o h => ?_,fun i o h ty n cs hx => ?_,fun i o h o' hx hl => ?_,fun j o b h hl hb => ?_,hF.F1,hF.F2⟩,hD.1,fun p hp => ?_,?_⟩
   ·obtain ⟨⟨o',q1⟩,q2,q3⟩:=hF.ids i o h
    obtain ⟨o2,q4,_⟩:=hmp.fw i i o' (small i o h).2 q1;obtain ⟨r1,r2⟩:=hi i i (small i o h).1;exact ⟨⟨o2,q4⟩,r1.trans q2,r2.trans q3⟩
   ·obtain ⟨i',o',q3,q4,q5⟩:=h2 _ _ hx
    rw [(small i o h).1] at q3;cases q3
    rw [kM q5] at q4
    exact hF.row _ _ h _ _ _ q4
   ·obtain ⟨i',o2,q3,q4,q5⟩:=h2 _ _ hx
    rw [(small i o h).1] at q3;cases q3
    exact hF.liv _ _ h _ q4 (by rw [← bM q5];exact hl)
   ·obtain ⟨i,o',q3,q4,q5⟩:=h2 _ _ h
    rw [(hi _ _ q3).1] at hb
    exact hF.new i o' b q4 (by rw [← bM q5];exact hl) hb
   ·obtain ⟨r1,r2,r3,r4,r5⟩:=hD.2.1 p hp
    refine ⟨r1,r2,r3,r4,fun j o h hl hb => ?_⟩
    obtain ⟨i,o',q3,q4,q5⟩:=h2 _ _ h;rw [(hi _ _ q3).1] at hb
    exact r5 i o' q4 (by rw [← bM q5];exact hl) hb
   ·have lv:∀ (j:Nat) (o:AO),M'[j]? = some (some o)→o.live=true→∃ i o',mI k ids j=some i∧st.m[i]? = some (some o')∧o'.live=true:=fun j o h hl=>by
     obtain ⟨i,o',q3,q4,q5⟩:=h2 _ _ h;exact ⟨i,o',q3,q4,by rw [← bM q5];exact hl⟩
    have pk:∀ (j to ti sz:Nat) (L:List (Nat × List PV)),M'[j]? = some (some (.pk to ti sz L))→∃ i,mI k ids j=some i∧st.m[i]? = some (some (.pk to ti sz L)):=fun j to ti sz L h=>by
     obtain ⟨i,o',q3,q4,q5⟩:=h2 _ _ h;refine ⟨i,q3,?_⟩;cases o' with
     | pk=>simp only [mpO,Option.some.injEq] at q5;rw [← q5];exact q4
     | box=>simp [mpO] at q5
     | _=>simp [mpO] at q5
    refine ⟨fun j to ti sz L h => ?_,fun j j' to ti sz Nm Nn Np L L' h h' hne b hb Al => ?_⟩
    ·obtain ⟨i,q3,q4⟩:=pk _ _ _ _ _ h
     obtain ⟨p,p0,p1⟩:=hD.2.2.1 _ _ _ _ _ q4;obtain ⟨r1,r2⟩:=hi j i q3;refine ⟨p.move (r1.trans p.io) r2 (fun _ h=>h) (fun _ _=>rfl) fun b hb=>⟨rfl,(p.own b hb).1,fun j2 o2 ho hl => ?_⟩,fun o ho => ?_,by rw [r2];exact p1⟩
     ·obtain ⟨i2,o3,s1,s2,s3⟩:=lv j2 o2 ho hl
      rw [(hi _ _ s1).1];exact (p.own b hb).2 i2 o3 s2 s3
     ·have:=(small j o ho).1
      rw [this] at q3;cases q3
      exact p0 o ho
    ·obtain ⟨i,q3,q4⟩:=pk _ _ _ _ _ h
     obtain ⟨i',Jn,Sf⟩:=pk _ _ _ _ _ h';rw [(hi j i q3).2] at hb
     rw [(hi j' i' Jn).2] at Al
     refine hD.2.2.2 _ _ _ _ _ _ _ _ _ _ q4 Sf (fun e=>hne ?_) b hb Al
     subst e;exact aZb hd q3 Jn
  ·cases hp
 ·cases hp

def aHe:List Nat→St→Option St
 | [],st=>some st
 | i::r,st=>match Oi i st with
  | some Aj=>aHe r Aj
  | none=>match fzP i st with
   | some Aj=>aHe r Aj
   | none=>match fzM i st with
    | some Aj=>aHe r Aj
    | none=>none
def nlC(id off ty:Nat)(st:St):Option St:=match st.m[id]? with
 | some (some (.box bty cs))=>match cs[off]? with
  | some (.p (.v (.slice none 0 0)))=>match Nat.beq ty 99999 with
   | true=>some ⟨st.t,aX st.m id (some (.box bty (cs.set off (.p (.sl 0 [])))))⟩
   | false=>match fO st.m st.m.length with
    | true=>some ⟨st.t,aX (aX st.m st.m.length (some (.row ty 0 []))) id (some (.box bty (cs.set off (.own st.m.length))))⟩
    | false=>none
  | some (.kb b)=>some ⟨st.t,aX st.m id (some (.box bty (cs.set off (.p (.v (.bool b))))))⟩
  | _=>none
 | _=>none
def nlS(i ty:Nat)(st:St):Option St:=match st.t[i]? with
 | some (.p (.v (.slice none 0 0)))=>match Nat.beq ty 99999 with
  | true=>some ⟨st.t.set i (.p (.sl 0 [])),st.m⟩
  | false=>match fO st.m st.m.length with
   | true=>some ⟨st.t.set i (.own st.m.length),aX st.m st.m.length (some (.row ty 0 []))⟩
   | false=>none
 | some (.kb b)=>some ⟨st.t.set i (.p (.v (.bool b))),st.m⟩
 | _=>none
def Oj(i ty:Nat)(st:St):Option St:=match Nat.ble 100000 i with
 | true=>nlC ((i-100000) / 1000) ((i-100000) % 1000) ty st
 | false=>match Nat.ble 1000000000 ty with
  | true=>nlP i ((ty-1000000000) / 1000000) ((ty-1000000000) / 100 % 10000) ((ty-1000000000) % 100) st
  | false=>nlS i ty st
def aZc:List (Nat × Nat)→St→Option St
 | [],st=>some st
 | (i,ty)::r,st=>match Oj i ty st with
  | some Aj=>aZc r Aj
  | none=>none
def gh(k:Nat)(g:Gh)(st:St):Option St:=match aHe g.fz st with
 | some st1=>match aZc g.nl st1 with
  | some st2=>pick k g.ids ⟨forget g.fg st2.t,st2.m⟩
  | none=>none
 | none=>none
theorem aBp(hM:aP P C M w){id bty off:Nat}{cs:List AV}{x:AV}(hb:M[id]? = some (some (.box bty cs)))(hoff:off<cs.length)
  (hx:∀ u,Rep C M w cs[off] u→Rep C (aX M id (some (.box bty (cs.set off x)))) w x u):aP P C (aX M id (some (.box bty (cs.set off x)))) w∧Fr C M w C (aX M id (some (.box bty (cs.set off x)))) w:=by
 have hold:∀ (i:Nat) (o:AO),i≠id→(aX M id (some (.box bty (cs.set off x))))[i]? = some (some o)→M[i]? = some (some o):=fun i o h=>(aN M id i _ o (fun e=>h e.symm)).1
 have hnew:∀ (o:AO),(aX M id (some (.box bty (cs.set off x))))[id]? = some (some o)→o = .box bty (cs.set off x):=fun o h=>by rw [aV] at h;cases h;rfl
 have hliv:∀ (i:Nat) (o:AO),(aX M id (some (.box bty (cs.set off x))))[i]? = some (some o)→o.live=true→∃ o1,M[i]? = some (some o1)∧o1.live=true:=fun i o h hl=>by
  by_cases e:i=id
  ·subst e;exact ⟨_,hb,rfl⟩
  ·exact ⟨o,hold i o e h,hl⟩
 have f:Fr C M w C (aX M id (some (.box bty (cs.set off x)))) w:=by
  refine ⟨rfl,rfl,rfl,dJ _,fun _ _ _=>rfl,fun i o h=>⟨?_,rfl,rfl⟩,fun i o h ty n Ol hm => ?_,fun i o h o' h' hl => ?_,fun i o b h hl hbb => ?_,fun b h=>h,fun b h => .inl h⟩
  ·by_cases e:i=id
   ·subst e;exact ⟨_,aV ..⟩
   ·exact ⟨o,(aN M id i _ o (fun e'=>e e'.symm)).2 h⟩
  ·by_cases e:i=id
   ·subst e;cases hnew _ hm
   ·exact ⟨Ol,hold i _ e hm⟩
  ·obtain ⟨o1,q1,q2⟩:=hliv i o' h' hl
   rw [h] at q1;cases q1;exact q2
  ·obtain ⟨o1,q1,q2⟩:=hliv i o h hl
   exact .inr ⟨i,o1,q1,q2,hbb⟩
 have hL:=hM.le f;refine ⟨⟨fun i ty n Ol hm => ?_,fun i ty Ol hm => ?_,fun i es cl hm => ?_,fun i i' o1 o2 b hm hl Cu De h1 h2 => ?_,fun i o b hm hl hbb => ?_,hM.Fs,fun i o b hm hl hbb => ?_⟩,f⟩
 ·by_cases e:i=id
  ·subst e;cases hnew _ hm
  ·exact hM.row _ _ _ _ (hold i _ e hm)
 ·by_cases e:i=id
  ·subst e
   cases hnew _ hm;obtain ⟨b,arr,q0,q1,q2,q3,q4⟩:=hM.box _ _ _ hb;refine ⟨b,arr,q0,q1,by simpa using q2,fun j hj => ?_,fun j hj=>q4 j (by simpa using hj)⟩
   rw [oG]
   split
   ·rename_i e2;subst e2;exact hx _ (q3 _ hoff)
   ·exact (q3 j (by simpa using hj)).mono hL
  ·obtain ⟨b,arr,q0,q1,q2,q3,q4⟩:=hM.box _ _ _ (hold i _ e hm)
   exact ⟨b,arr,q0,q1,q2,fun j hj=>(q3 j hj).mono hL,q4⟩
 ·by_cases e:i=id
  ·subst e;cases hnew _ hm
  ·obtain ⟨b,arr,q0,q1,q2,q3⟩:=hM.mp _ _ _ (hold i _ e hm)
   refine ⟨b,arr,q0,q1,q2,fun j hj => ?_⟩
   obtain ⟨en,r1,r2,r3,r4⟩:=q3 j hj;exact ⟨en,r1,r2,r3,r4.mono hL.F hL.fz⟩
 ·obtain ⟨x1,y1,z1⟩:=hliv i o1 hm hl
  obtain ⟨x2,y2,z2⟩:=hliv i' o2 Cu De;exact hM.inj _ _ _ _ _ y1 z1 y2 z2 h1 h2
 ·obtain ⟨x1,y1,z1⟩:=hliv i o hm hl
  exact hM.nF _ _ _ y1 z1 hbb
 ·obtain ⟨x1,y1,z1⟩:=hliv i o hm hl
  exact hM.lt _ _ _ y1 z1 hbb
theorem bCd{id off ty:Nat}{st Aj:St}{a:Act}(h:nlC id off ty st=some Aj)(hs:Sim P C0 M0 w0 st a w):Sim P C0 M0 w0 Aj a w:=by
 obtain ⟨C,hS,hM,hF,hD⟩:=hs;unfold nlC at h
 split at h
 ·rename_i bty cs hi
  split at h
  ·rename_i hc
   split at h
   ·cases h
    obtain ⟨hoff,hcv⟩:=Bg.1 hc;obtain ⟨Ir,f2⟩:=aBp hM hi hoff (x := .p (.sl 0 [])) (fun u hu=>by
     rw [hcv] at hu
     cases hu with
     | p _ _ h =>
      cases h;exact .p _ _ (.sl 0 [] none 0 (fun _=>undef) (dJ _) (Nat.zero_le _) (fun i hi=>by simp at hi) (fun i hi=>by simp at hi) (fun i hi=>by simp at hi)))
    exact ⟨C,hS.le (hM.le f2),Ir,hF.trans f2,hD.fr hM (fV rfl) f2⟩
   ·split at h
    ·rename_i hb
     cases h;have hf:=cG hb;have f:=vO (C:=C) (w:=w) (ty:=ty) hf;have Bz:=vP (ty:=ty) hM hf;have hne:id≠st.m.length:=fun e=>hf _ (e ▸ hi)
     have Gl:(aX st.m st.m.length (some (.row ty 0 [])))[id]? = some (some (.box bty cs)):=(aN st.m st.m.length id _ _ (fun e=>hne e.symm)).2 hi
     obtain ⟨hoff,hcv⟩:=Bg.1 hc;have hnw:(aX (aX st.m st.m.length (some (.row ty 0 []))) id (some (.box bty (cs.set off (.own st.m.length)))))[st.m.length]? = some (some (.row ty 0 [])):=(aN _ id st.m.length _ _ hne).2 (aV ..);obtain ⟨Ir,f2⟩:=aBp Bz Gl hoff (x := .own st.m.length) (fun u hu=>by
      rw [hcv] at hu
      cases hu with
      | p _ _ h =>
       cases h;exact .own _ _ rfl ⟨_,hnw⟩ fun ty n cs h=>by rw [hnw] at h;cases h;exact .inl ⟨rfl,by simp [Cx.nil],rfl⟩)
     exact ⟨C.nil st.m.length,(hS.le (hM.le f)).le (Bz.le f2),Ir,(hF.trans f).trans f2,hD.fr hM ((fV rfl).trans (fV rfl)) (f.trans f2)⟩
    ·cases h
  ·rename_i b hc
   cases h;obtain ⟨hoff,hcv⟩:=Bg.1 hc;obtain ⟨Ir,f2⟩:=aBp hM hi hoff (x := .p (.v (.bool b))) (fun u hu=>by
    rw [hcv] at hu
    cases hu;exact .p _ _ (.v _))
   exact ⟨C,hS.le (hM.le f2),Ir,hF.trans f2,hD.fr hM (fV rfl) f2⟩
  ·cases h
 ·cases h
theorem bCe{i ty:Nat}{st Aj:St}{a:Act}(h:nlS i ty st=some Aj)(hs:Sim P C0 M0 w0 st a w):Sim P C0 M0 w0 Aj a w:=by
 obtain ⟨C,hS,hM,hF,hD⟩:=hs;unfold nlS at h
 split at h
 ·rename_i hi
  split at h
  ·cases h
   refine ⟨C,⟨by simpa using hS.size,fun j hj => ?_⟩,hM,hF,hD⟩
   simp only [lP] at hj
   rw [oG]
   split
   ·rename_i e
    subst e;have hr:=hS.at hi
    generalize a.tmps.getD i undef=u at hr ⊢
    cases hr with
    | p _ _ h =>
     cases h;exact .p _ _ (.sl 0 [] none 0 (fun _=>undef) (dJ _) (Nat.zero_le _) (fun i hi=>by simp at hi) (fun i hi=>by simp at hi) (fun i hi=>by simp at hi))
   ·exact hS.rep j hj
  ·split at h
   ·rename_i hb
    cases h;have hf:=cG hb;have f:=vO (C:=C) (w:=w) (ty:=ty) hf;have hL:=hM.le f;refine ⟨C.nil st.m.length,⟨by simpa using hS.size,fun j hj => ?_⟩,vP hM hf,hF.trans f,hD.fr hM (fV rfl) f⟩
    simp only [lP] at hj
    rw [oG]
    split
    ·rename_i e
     subst e;have hr:=hS.at hi
     generalize a.tmps.getD i undef=u at hr ⊢
     cases hr with
     | p _ _ h =>
      cases h;exact .own _ _ rfl ⟨_,aV ..⟩ fun ty n cs h=>by rw [aV] at h;cases h;exact .inl ⟨rfl,by simp [Cx.nil],rfl⟩
    ·exact (hS.rep j hj).mono hL
   ·cases h
 ·rename_i b hi
  cases h;refine ⟨C,⟨by simpa using hS.size,fun j hj => ?_⟩,hM,hF,hD⟩
  simp only [lP] at hj
  rw [oG]
  split
  ·rename_i e
   subst e;have hr:=hS.at hi
   generalize a.tmps.getD i undef=u at hr ⊢
   cases hr;exact .p _ _ (.v _)
  ·exact hS.rep j hj
 ·cases h
theorem bCf{i ty:Nat}{st Aj:St}{a:Act}(h:Oj i ty st=some Aj)(hs:Sim P C0 M0 w0 st a w):Sim P C0 M0 w0 Aj a w:=by
 unfold Oj at h
 split at h
 ·exact bCd h hs
 ·split at h
  ·exact bCk h hs
  ·exact bCe h hs
theorem zE:∀ (l:List (Nat × Nat)) {st Aj:St} {a:Act},aZc l st=some Aj→Sim P C0 M0 w0 st a w→Sim P C0 M0 w0 Aj a w
 | [],st,Aj,a,h,hs=>by cases h;exact hs
 | (i,ty)::r,st,Aj,a,h,hs=>by
  unfold aZc at h
  split at h
  ·rename_i h1
   exact zE r h (bCf h1 hs)
  ·cases h
theorem mK:∀ (l:List Nat) {st Aj:St} {a:Act},aHe l st=some Aj→Sim P C0 M0 w0 st a w→Sim P C0 M0 w0 Aj a w
 | [],st,Aj,a,h,hs=>by cases h;exact hs
 | i::r,st,Aj,a,h,hs=>by
  unfold aHe at h
  split at h
  ·rename_i h1
   exact mK r h (bCl h1 hs)
  ·split at h
   ·rename_i h1
    exact mK r h (bCj h1 hs)
   ·split at h
    ·rename_i h1
     exact mK r h (bCi h1 hs)
    ·cases h
theorem uZ{k:Nat}{g:Gh}{st Aj:St}{a:Act}(hk:M0.length≤k)(h:gh k g st=some Aj)(hs:Sim P C0 M0 w0 st a w):Sim P C0 M0 w0 Aj a w:=by
 unfold gh at h
 split at h
 ·rename_i h1
  split at h
  ·rename_i h2
   exact aSh hk h (aJo g.fg (zE _ h2 (mK _ h1 hs)))
  ·cases h
 ·cases h
end
section
variable {P:Program} {T:TT} {E:Env} {C C0:Cx} {M M0:Mem} {w w0:World}

theorem bKv(hM:aP P C M w){w1:World}(hw:w1.heap=w.heap):aP P C M w1∧Le C C M M w w1:=by
 have hL:Le C C M M w w1:=⟨fun _ o h=>⟨o,h⟩,fun _ _ _ _ _ cs h=>⟨cs,h⟩,fun _ o h o' h' hl=>by rw [h] at h';cases h';exact ⟨hl,rfl,rfl⟩,fun _ h=>h,fun _ _=>by rw [hw]⟩
 have hsz:w1.heap.size=w.heap.size:=by rw [hw]
 refine ⟨⟨fun i Cc n cs hm => ?_,fun i Cc cs hm => ?_,fun i es cl hm => ?_,hM.inj,hM.nF,fun b hb=>by rw [hsz];exact hM.Fs b hb,fun i x b hm hl hb=>by rw [hsz];exact hM.lt i x b hm hl hb⟩,hL⟩
 ·rcases hM.row _ _ _ _ hm with h4 | ⟨b,arr,inf,q0,q1,q2,q3,q4,q5,q6,q7,q8⟩
  ·exact .inl h4
  ·exact .inr ⟨b,arr,inf,q0,by rw [hw];exact q1,q2,q3,q4,q5,q6,fun j hj=>(q7 j hj).mono hL.F hL.fz,q8⟩
 ·obtain ⟨b,arr,q0,q1,q2,q3,q4⟩:=hM.box _ _ _ hm
  exact ⟨b,arr,q0,by rw [hw];exact q1,q2,fun j hj=>(q3 j hj).mono hL,q4⟩
 ·obtain ⟨b,arr,q0,q1,q2,q3⟩:=hM.mp _ _ _ hm
  refine ⟨b,arr,q0,by rw [hw];exact q1,q2,fun j hj => ?_⟩
  obtain ⟨en,r1,r2,r3,r4⟩:=q3 j hj;exact ⟨en,r1,r2,r3,r4.mono hL.F hL.fz⟩
theorem aZa{w1:World}(hw:w1.heap=w.heap)(ho:w1.os=w.os)(ht:w1.tape=w.tape)(hu:w1.output=w.output):Fr C M w C M w1 :=
 ⟨ho,ht,hu,by rw [hw];exact dJ _,fun b _ _=>by rw [hw],fun _ x h=>⟨⟨x,h⟩,rfl,rfl⟩,fun _ _ _ _ _ cs h=>⟨cs,h⟩,fun _ o h o' h' hl=>by rw [h] at h';cases h';exact hl,fun i x _ h hl hb => .inr ⟨i,x,h,hl,hb⟩,fun _ h=>h,fun _ h => .inl h⟩

theorem Sim.drawn{st:St}{a:Act}(h:Sim P C0 M0 w0 st a w)(k:Nat):Sim P C0 M0 w0 st a { w with drawn:=k }:=by
 obtain ⟨C,hS,hM,hF,hD⟩:=h;obtain ⟨m,l⟩:=bKv hM (w1:={ w with drawn:=k }) rfl
 exact ⟨C,hS.le l,m,hF.trans (aZa rfl rfl rfl rfl),hD.fr hM .refl (aZa rfl rfl rfl rfl)⟩

def bRl(ops:Array Oper)(k:Nat)(o:Oper):List Oper→Bool
 | []=>true
 | y::r=>(o.apart ops y || y.after.toList.any fun e=>Region.binds .any e && e.on == k) && bRl ops k o r
def bRm(ops:Array Oper):Nat→List Oper→Bool
 | _,[]=>true
 | k,o::r=>(o.after.toList.all fun e => !Region.binds .any e || Nat.blt e.on k) && bRl ops k o r && bRm ops (k+1) r
def bYb(ops:Array Oper):Bool:=Region.noSelect ops && bRm ops 0 ops.toList
theorem aGz{ops:Array Oper}{k:Nat}{o:Oper}:∀ {r:List Oper},bRl ops k o r=true→∀ y∈r,(y.after.any fun e=>Region.binds .any e && e.on == k)=true∨o.apart ops y=true
 | [],_,y,hy=>by cases hy
 | z::r,h,y,hy=>by
  unfold bRl at h
  rw [Bw,aKm] at h
  rcases eO.1 hy with rfl | hy
  ·rcases h.1 with h1 | h1
   ·exact .inr h1
   ·rw [Array.any_toList] at h1;exact .inl h1
  ·exact aGz h.2 y hy
theorem aHa{ops:Array Oper}:∀ (r:List Oper) (k:Nat) (listed:Array Bool),ops.toList.drop k=r→k+r.length=ops.size→listed.size=ops.size→(∀ j,j<ops.size→listed[j]? = some (decide (j<k))) →
  bRm ops k r=true→Region.lexFrom .any ops r.length k listed=true
 | [],k,listed,hd,hk,hz,hl,h=>by
  show (Region.ready .any ops listed).isEmpty=true;unfold Region.ready;rw [List.isEmpty_iff,List.filter_eq_nil_iff];intro i hi;have hi:=qT.1 hi;have h1:listed.getD i true=true:=by
   rw [Bm,hl i hi];have:k=ops.size:=by simpa using hk
   simp;omega
  rw [h1];simp
 | o::r,k,listed,hd,hk,hz,hl,h=>by
  unfold bRm at h
  rw [Bw,Bw] at h
  obtain ⟨⟨h1,h2⟩,h3⟩:=h;rw [oF] at hk
  have hko:ops[k]? = some o:=by
   have:(ops.toList.drop k)[0]? = some o:=by rw [hd];rfl
   rw [List.getElem?_drop] at this
   simpa using this
  have hdr:ops.toList.drop (k+1)=r:=by
   have:=congrArg List.tail hd;rw [List.tail_drop] at this
   exact this
  have hlk:listed.getD k true=false:=by
   rw [Bm,hl k (by omega)];simp
  show ((Region.ready .any ops listed).contains k && Region.free .any ops listed k && Region.lexFrom .any ops r.length (k+1) (listed.setIfInBounds k true))=true;rw [Bw,Bw];refine ⟨⟨?_,?_⟩,?_⟩
  ·rw [List.contains_iff_mem]
   unfold Region.ready;rw [sP];refine ⟨qT.2 (by omega),?_⟩
   rw [hlk,hko];show (!false && o.after.all fun e => !Region.binds .any e || listed.getD e.on false)=true
   rw [Bool.not_false,iL,← Array.all_toList,fL];intro e he;have:=fL.1 h1 e he;rw [aKm] at this ⊢
   rcases this with q | q
   ·exact .inl q
   ·have q:e.on<k:=by simpa using q
    refine .inr ?_;rw [Bm,hl e.on (by omega)]
    simp [q]
  ·unfold Region.free
   rw [hko];show ((List.range ops.size).all _)=true;rw [fL];intro j hj;have hj:=qT.1 hj
   rcases Nat.lt_trichotomy j k with q | q | q
   ·have:listed.getD j true=true:=by rw [Bm,hl j hj];simp [q]
    rw [this];simp
   ·subst q;simp
   ·obtain ⟨y,hy⟩:∃ y,ops[j]? = some y:=⟨_,oD hj⟩
    rw [hy];have hm:y∈r:=by
     rw [← hdr];have:(ops.toList.drop (k+1))[j-(k+1)]? = some y:=by
      rw [List.getElem?_drop,show k+1+(j-(k+1))=j by omega]
      simpa using hy
     exact Br this
    have:=aGz h2 y hm;show (j == k || listed.getD j true || ((y.after.any fun e=>Region.binds .any e && e.on == k) || o.apart ops y))=true
    rw [aKm,aKm (_) (o.apart ops y)];exact .inr this
  ·refine aHa r (k+1) _ hdr (by omega) (by rw [Array.size_setIfInBounds];exact hz) (fun j hj => ?_) h3
   rw [Array.getElem?_setIfInBounds]
   by_cases q:k=j
   ·subst q
    rw [if_pos rfl,if_pos (by omega)];simp
   ·rw [if_neg q,hl j hj]
    congr 1
    rw [decide_eq_decide];omega
theorem aHb{ops:Array Oper}(h:bYb ops=true):Region.lexB .any ops=true:=by
 unfold bYb at h
 rw [Bw] at h
 unfold Region.lexB;rw [Bw];refine ⟨h.1,?_⟩;have:=aHa ops.toList 0 (Array.replicate ops.size false) rfl (by simp) (by simp) (fun j hj=>by simp [hj]) h.2
 simpa using this
def bCa(P:Program)(T:TT)(E:Env)(ops:Array Oper)(draw:Bool)(st:St):Ask St:=match draw with
 | false=>bRt P T E ops.toList ops.toList st
 | true=>do
  lift (if bYb ops then some () else none)
  let r ← aSj P T E ops.toList ops.toList st.m.length st
  lift (if aJr ops 0 r.1 then some () else none)
  pure r.2

def Ex.toExit:Ex→Exit
 | .normal => .normal
 | .ret => .ret
 | .exit id => .exit id

def aHc(body:St→Ask (Ex × St)):Nat→St→Ask (Ex × St)
 | 0,_=>fail
 | n+1,st=>do
  let r ← body st
  match r.1 with
  | .normal=>aHc body n r.2
  | e=>pure (e,r.2)

def bRn:Op→Bool
 | .makeMap _ _=>true
 | .lookup _ _ _ _=>true
 | .mapUpdate _ _ _ _=>true
 | _=>false
def nrf:Code→Bool
 | .region _ ops _=>ops.toList.all fun o => !bRn o.op
 | .seq a b=>nrf a && nrf b
 | .cond _ a b=>nrf a && nrf b
 | .block _ b=>nrf b
 | .loop b=>nrf b
 | .scope b=>nrf b
 | .rangeFunc _ _ _ _=>false
 | _=>true
def lL(ro:Option Nat)(c:Code):Prop:=ro=none∨nrf c=true
section
variable {ro:Option Nat} {a b:Code} {x:Operand} {id:Nat}
theorem lL.seq1(h:lL ro (.seq a b)):lL ro a:=h.imp (fun h=>h) fun h=>by unfold nrf at h;rw [Bw] at h;exact h.1
theorem lL.seq2(h:lL ro (.seq a b)):lL ro b:=h.imp (fun h=>h) fun h=>by unfold nrf at h;rw [Bw] at h;exact h.2
theorem lL.cond1(h:lL ro (.cond x a b)):lL ro a:=h.imp (fun h=>h) fun h=>by unfold nrf at h;rw [Bw] at h;exact h.1
theorem lL.cond2(h:lL ro (.cond x a b)):lL ro b:=h.imp (fun h=>h) fun h=>by unfold nrf at h;rw [Bw] at h;exact h.2
theorem lL.block(h:lL ro (.block id b)):lL ro b:=h
theorem lL.loop(h:lL ro (.loop b)):lL ro b:=h
theorem lL.scope(h:lL ro (.scope b)):lL ro b:=h
end

def aB(P:Program)(k:Nat)(c:Code)(st:St)(e:Ex)(Aj:St):Prop:=∀ (C0:Cx) (M0:Mem) (w0:World) (a:Act) (w:World),M0.length≤k→Sim P C0 M0 w0 st a w→∀ (ro:Option Nat),lL ro c→∀ (n:Nat),c.wpIn (Fen ro) n P (fun e' a' w'=>e'=e.toExit∧Sim P C0 M0 w0 Aj a' w') a w

def aFo(P:Program)(k:Nat)(c:Code)(m:St→Ask (Ex × St))(st:St):Ask (Ex × St):=fun s=>match s.auto with
 | true=>m st s
 | false=>match s.o with
  | .k 0 g e Aj::r=>match gh k g st with
   | some st1=>some ((e,Aj),{ s with o:=r,obs:=aB P k c st1 e Aj::s.obs })
   | none=>none
  | .k (n+1) g e Aj::r=>m st { s with o := .k n g e Aj::r }
  | .g 0 g::r=>match gh k g st with
   | some st1=>m st1 { s with o:=r }
   | none=>none
  | .g (n+1) g::r=>m st { s with o := .g n g::r }
  | _=>m st s
def pW{α:Type}(m:Ask α):Ask α:=fun s=>match s.auto with
 | true=>m s
 | false=>none

def aAe(P:Program)(T:TT)(E:Env)(k fuel:Nat):Code→St→Ask (Ex × St)
 | .skip,st=>pure (.normal,st)
 | .region id ops d,st=>aFo P k (.region id ops d) (fun st=>do let Aj ← bCa P T E ops d st;pure (.normal,Aj)) st
 | .seq a b,st=>aFo P k (.seq a b) (fun st=>do
  let r ← aAe P T E k fuel a st
  match r.1 with
  | .normal=>aAe P T E k fuel b r.2
  | e=>pure (e,r.2)) st
 | .cond c a b,st=>aFo P k (.cond c a b) (fun st=>do
  let x ← lift (ev st c)
  let d ← aTn x
  match d with
  | true=>aAe P T E k fuel a st
  | false=>aAe P T E k fuel b st) st
 | .block id b,st=>aFo P k (.block id b) (fun st=>do
  let r ← aAe P T E k fuel b st
  match r.1 with
  | .exit i=>match Nat.beq i id with
   | true=>pure (.normal,r.2)
   | false=>pure (.exit i,r.2)
  | e=>pure (e,r.2)) st
 | .loop b,st=>aFo P k (.loop b) (fun st=>pW (aHc (fun st=>aAe P T E k fuel b st) fuel st)) st
 | .exit id,st=>pure (.exit id,st)
 | .label _,st=>pure (.normal,st)
 | .scope b,st=>aAe P T E k fuel b st
 | .ret,st=>pure (.ret,st)
 | c,st=>aFo P k c (fun _=>fail) st

theorem aB.pre{k:Nat}{c:Code}{st st1 Aj:St}{e:Ex}{g:Gh}(hg:gh k g st=some st1)(h:aB P k c st1 e Aj):aB P k c st e Aj:=fun C0 M0 w0 a w hk hs ro hro n=>h C0 M0 w0 a w hk (uZ hk hg hs) ro hro n
theorem aB.post{k:Nat}{c:Code}{st st1 Aj:St}{e:Ex}{g:Gh}(hg:gh k g st1=some Aj)(h:aB P k c st e st1):aB P k c st e Aj:=fun C0 M0 w0 a w hk hs ro hro n=>wpIn_mono (h C0 M0 w0 a w hk hs ro hro n) (fun _ _ _ hq=>⟨hq.1,uZ hk hg hq.2⟩)
theorem kB{k:Nat}{c:Code}{m:St→Ask (Ex × St)}(hm:∀ {st Aj:St} {e:Ex} {s s':AS},m st s=some ((e,Aj),s')→bB s'→aB P k c st e Aj){st Aj:St}{e:Ex}{s s':AS}(h:aFo P k c m st s=some ((e,Aj),s'))(g:bB s'):aB P k c st e Aj:=by
 unfold aFo at h
 cases ha:s.auto with
 | true=>rw [ha] at h;exact hm h g
 | false =>
  rw [ha] at h
  dsimp only at h
  split at h
  ·split at h
   ·rename_i hg
    cases h;exact (g.tail.1).pre hg
   ·cases h
  ·exact hm h g
  ·split at h
   ·rename_i hg
    exact (hm h g).pre hg
   ·cases h
  ·exact hm h g
  ·exact hm h g
theorem lT{k:Nat}{c:Code}{m:St→Ask (Ex × St)}(hm:∀ st,bV (m st))(st:St):bV (aFo P k c m st):=fun s r s' h p hp=>by
 unfold aFo at h
 cases ha:s.auto with
 | true=>rw [ha] at h;exact hm _ _ _ _ h p hp
 | false =>
  rw [ha] at h
  dsimp only at h
  split at h
  ·split at h
   ·cases h;exact B3 _ hp
   ·cases h
  ·exact hm _ _ _ _ h p hp
  ·split at h
   ·exact hm _ _ _ _ h p hp
   ·cases h
  ·exact hm _ _ _ _ h p hp
  ·exact hm _ _ _ _ h p hp
theorem bCb{α:Type}{m:Ask α}(hm:bV m):bV (pW m):=fun s r s' h p hp=>by
 unfold pW at h
 split at h
 ·exact hm _ _ _ h p hp
 ·cases h
theorem bKw{α:Type}{m:Ask α}{s s':AS}{r:α}(h:pW m s=some (r,s')):m s=some (r,s'):=by
 unfold pW at h
 split at h
 ·exact h
 ·cases h

theorem aSf(hT:∀ t i,T t=some i→bX P t=some i)(hE:nY P E)(hm:P.follows .mixedOrders=true){id:Nat}{ops:Array Oper}{d:Bool}{st Aj:St}{s s':AS}(h:bCa P T E ops d st s=some (Aj,s'))(g:bB s'){k:Nat}:aB P k (.region id ops d) st .normal Aj:=by
 intro C0 M0 w0 a w _ hs ro hro n;cases d with
 | false =>
  refine wpIn_region ?_;have:=tP hT hE ops.toList 0 (fun j=>by simp) h g C0 M0 w0 a w hs ro n (fun e' a' w'=>e'=Ex.normal.toExit∧Sim P C0 M0 w0 Aj a' w') (fun a' w' h'=>⟨rfl,h'⟩)
  simpa using this
 | true =>
  obtain ⟨_,s1,h1,k1⟩:=aD h;obtain ⟨e1,rfl⟩:=aF h1;obtain ⟨r,s2,h2,k2⟩:=aD k1;obtain ⟨_,s3,h3,k3⟩:=aD k2;obtain ⟨e3,rfl⟩:=aF h3;obtain ⟨rfl,rfl⟩:=aI k3;obtain ⟨hB,_⟩:=bO e1;obtain ⟨hA,_⟩:=bO e3;obtain ⟨os,hfts,hlex⟩:=vD ops.toList _ (fts:=r.1) (fin:=r.2) h2 g
  replace hB:=aHb hB
  unfold Region.lexB at hB
  rw [Bw] at hB
  have hlen:os.length=ops.toList.length:=by
   have:∀ {l:List Oper} {id:Nat} {st:St} {os:List xJ} {fin:St},aSk P T E ops.toList id l st os fin→os.length=l.length:=by
    intro l
    induction l with
    | nil=>intro id st os fin h;cases h;rfl
    | cons o l ih=>intro id st os fin h;cases h with | cons _ _ _ _ q os _ h hr=>simp [ih hr]
   exact this hlex
  have key:pZ P T E ops.toList st.m.length (fun k=>os.getD k (.any,[],none)) r.2 ops.toList.length (Array.replicate ops.size false) st:=by
   refine pZ.lex ops.toList 0 _ st os (fun j=>by simp) (fun j q hj=>by simp [Bj,hj]) (fun j hj=>absurd hj (bMd _)) (fun j oj hj hl => ?_) (fun i j _ hij hj => ?_) (by simpa using hB.2) (by simpa [ido] using hlex)
   ·exfalso
    rcases Nat.lt_or_ge j ops.size with h' | h'
    ·simp [h'] at hl
    ·simp [Nat.not_lt.2 h'] at hl
   have D4:j<os.length:=by
    rw [hlen];obtain ⟨o,ho⟩:=Option.isSome_iff_exists.1 hj;exact (Bg.1 ho).1
   have:=qA r.1 0 hA i j (aJp os[i]) (aJp os[j]) hij (by rw [hfts,gF,An (by omega)];rfl) (by rw [hfts,gF,An D4];rfl)
   rw [gP,gP] at this
   simp only [Bj,An D4,An (show i<os.length by omega),Option.getD_some,Array.toArray_toList]
   exact this
  refine wpIn_region_any hm ?_;have:=pZ.sound hT hE (C0:=C0) (M0:=M0) (w0:=w0) (ro:=ro) (n:=n) (Q:=fun e' a' w'=>e'=Ex.normal.toExit∧Sim P C0 M0 w0 r.2 a' w') (fun a' w' h'=>⟨rfl,h'⟩) _ _ _ a _ key (hs.drawn (w.drawn+1))
  simpa using this

theorem iU{b:Frame}{a:Act}{k:List Item}{cs:List Frame}{c:Code}:step P (lone (b.atR a (.code (.scope c)::k)) cs w) = .next (lone (b.atR a (.code c :: .inScope c::k)) cs w) :=
 step_lone_go (by simp [stepG,stepG.exec,Frame.atR])
theorem aFp{b:Frame}{a:Act}{k:List Item}{cs:List Frame}{c:Code}:step P (lone (b.atR a (.inScope c::k)) cs w) = .next (lone (b.atR a k) cs w) :=
 step_lone_go (by simp [stepG,stepG.exec,Frame.atR])
theorem aSg{F:Fence}{n:Nat}{c:Code}{Q:Exit→Act→World→Prop}{a:Act}(h:c.wpIn F n P (fun e a w=>(∀ l,e ≠ .goto l)∧Q e a w) a w):(Code.scope c).wpIn F n P Q a w:=by
 intro b k cs hro hb hr;have h0:(lone (b.atR a (.code (.scope c)::k)) cs w).fenced P F:=fenced_calm hb hr rfl;obtain ⟨e,a₁,w₁,⟨hg,hq⟩,harr⟩:=h b (.inScope c::k) cs hro hb hr;cases e with
 | normal=>exact ⟨.normal,a₁,w₁,hq,.head h0 iU (StepsIn.trans harr (.one (fenced_calm hb hr rfl) aFp))⟩
 | exit id =>
  have hx:exitTo id (.inScope c::k)=exitTo id k:=by simp [exitTo]
  exact ⟨.exit id,a₁,w₁,hq,fun k' hk => .head h0 iU (harr.1 k' (by rw [hx];exact hk)),
   fun Fx hk=>let ⟨k₁,h1,h2⟩:=harr.2 Fx (by rw [hx];exact hk);⟨k₁,h1,.head h0 iU h2⟩⟩
 | goto l=>exact absurd rfl (hg l)
 | ret=>exact ⟨_,a₁,w₁,hq,.of_steps (.one h0 iU) harr⟩
 | panic ch=>exact ⟨_,a₁,w₁,hq,.of_steps (.one h0 iU) harr⟩
 | outgrown=>exact ⟨_,a₁,w₁,hq,.of_steps (.one h0 iU) harr⟩

def LoopIn(F:Fence)(n:Nat)(P:Program)(c:Code)(Q:Exit→Act→World→Prop)(a:Act)(w:World):Prop :=
 ∀ (b:Frame) (k:List Item) (cs:List Frame),b.roundOf=F.round→F.fn b.fn→F.room (cs.length+1+n) →
  ∃ e a' w',Q e a' w'∧ArrivesIn (Machine.fenced P F) P (lone (b.atR a (.code c :: .inLoop c::k)) cs w) b k cs e a' w'

theorem LoopIn.step{F:Fence}{n:Nat}{c:Code}{Q:Exit→Act→World→Prop}{a:Act}(h:c.wpIn F n P (Exit.then (LoopIn F n P c Q) Q) a w):LoopIn F n P c Q a w:=by
 intro b k cs hro hb hr;obtain ⟨e,a₁,w₁,hq,harr⟩:=h b (.inLoop c::k) cs hro hb hr;cases e with
 | normal =>
  obtain ⟨e₂,a₂,w₂,hq₂,harr₂⟩:=hq b k cs hro hb hr;exact ⟨e₂,a₂,w₂,hq₂,.of_steps (StepsIn.trans harr (.one (fenced_calm hb hr rfl) stepR_inLoop)) harr₂⟩
 | exit id=>exact ⟨_,a₁,w₁,hq,.pass (x := .inLoop c) rfl (fun _ _ => .inl (by simp)) harr⟩
 | goto l=>exact ⟨_,a₁,w₁,hq,.pass (x := .inLoop c) rfl (fun _ _ => .inl (by simp)) harr⟩
 | ret=>exact ⟨_,a₁,w₁,hq,.pass (x := .inLoop c) rfl (fun _ _ => .inl (by simp)) harr⟩
 | panic ch=>exact ⟨_,a₁,w₁,hq,.pass (x := .inLoop c) rfl (fun _ _ => .inl (by simp)) harr⟩
 | outgrown=>exact ⟨_,a₁,w₁,hq,.pass (x := .inLoop c) rfl (fun _ _ => .inl (by simp)) harr⟩
theorem LoopIn.wp{F:Fence}{n:Nat}{c:Code}{Q:Exit→Act→World→Prop}{a:Act}(h:LoopIn F n P c Q a w):(Code.loop c).wpIn F n P Q a w:=by
 intro b k cs hro hb hr;obtain ⟨e,a',w',hq,harr⟩:=h b k cs hro hb hr;exact ⟨e,a',w',hq,.of_steps (.one (fenced_calm hb hr rfl) stepR_loop) harr⟩
end
section
variable {P:Program} {T:TT} {E:Env} {C C0:Cx} {M M0:Mem} {w w0:World}

theorem bBz{ops:Array Oper}{d:Bool}{st:St}:bV (bCa P T E ops d st):=by
 unfold bCa;split
 ·exact xL
 ·exact aG fun _=>bG nX fun _=>aG fun _=>aJ _
theorem tM{b:St→Ask (Ex × St)}(h:∀ st,bV (b st)):∀ (n:Nat) (st:St),bV (aHc b n st)
 | 0,_=>aS
 | n+1,st=>by
  unfold aHc;refine bG (h st) fun r => ?_
  split
  ·exact tM h n _
  ·exact aJ _
theorem rS{k fuel:Nat}:∀ (c:Code) (st:St),bV (aAe P T E k fuel c st):=by
 intro c
 induction c with
 | skip=>exact fun st=>aJ _
 | region id ops d=>exact lT fun st=>bG bBz fun _=>aJ _
 | seq a b iha ihb =>
  refine lT fun st => ?_
  refine bG (iha st) fun r => ?_
  split
  ·exact ihb _
  ·exact aJ _
 | cond c a b iha ihb =>
  refine lT fun st => ?_
  refine aG fun _=>bG aSv fun _ => ?_
  split
  ·exact iha _
  ·exact ihb _
 | block id b ih =>
  refine lT fun st => ?_
  refine bG (ih st) fun r => ?_
  split
  ·split <;> exact aJ _
  ·exact aJ _
 | loop b ih=>exact lT fun st=>bCb (tM ih _ _)
 | exit id=>exact fun st=>aJ _
 | label l=>exact fun st=>aJ _
 | scope b ih=>exact ih
 | ret=>exact fun st=>aJ _
 | _=>exact lT fun st=>aS

theorem zD{K:Nat}{c:Code}{b:St→Ask (Ex × St)}(hm:∀ st,bV (b st))(h:∀ {st e Aj s s'},b st s=some ((e,Aj),s')→bB s'→aB P K c st e Aj):∀ (n:Nat) {st:St} {e:Ex} {Aj:St} {s s':AS},aHc b n st s=some ((e,Aj),s')→bB s' →
  ∀ (C0:Cx) (M0:Mem) (w0:World) (a:Act) (w:World),M0.length≤K→Sim P C0 M0 w0 st a w→∀ (ro:Option Nat),lL ro c→∀ (k:Nat),LoopIn (Fen ro) k P c (fun e' a' w'=>e'=e.toExit∧e' ≠ .normal∧Sim P C0 M0 w0 Aj a' w') a w
 | 0,st,e,Aj,s,s',h0,_=>(aT h0).elim
 | n+1,st,e,Aj,s,s',h0,g=>by
  intro C0 M0 w0 a w hK hs ro hro k;unfold aHc at h0
  obtain ⟨⟨e1,st1⟩,s1,h1,k1⟩:=aD h0;refine LoopIn.step ?_;cases e1 with
  | normal =>
   have g1:=(tM hm n st1).good k1 g;have ih:=zD hm h n k1 g C0 M0 w0;refine wpIn_mono (h h1 g1 C0 M0 w0 a w hK hs ro hro k) ?_;rintro e' a' w' ⟨rfl,Bh⟩;exact ih a' w' hK Bh ro hro k
  | ret =>
   obtain ⟨he,rfl⟩:=aI k1;cases he;refine wpIn_mono (h h1 g C0 M0 w0 a w hK hs ro hro k) ?_;rintro e' a' w' ⟨rfl,Bh⟩;exact ⟨rfl,nofun,Bh⟩
  | exit id =>
   obtain ⟨he,rfl⟩:=aI k1;cases he;refine wpIn_mono (h h1 g C0 M0 w0 a w hK hs ro hro k) ?_;rintro e' a' w' ⟨rfl,Bh⟩;exact ⟨rfl,nofun,Bh⟩

theorem aBn(hT:∀ t i,T t=some i→bX P t=some i)(hE:nY P E)(hm:P.follows .mixedOrders=true){k fuel:Nat}:∀ (c:Code) {st:St} {e:Ex} {Aj:St} {s s':AS},aAe P T E k fuel c st s=some ((e,Aj),s')→bB s'→aB P k c st e Aj:=by
 intro c
 induction c with
 | skip =>
  intro st e Aj s s' h g C0 M0 w0 a w hk hs ro hro n;obtain ⟨he,rfl⟩:=aI h;cases he;exact wpIn_skip ⟨rfl,hs⟩
 | region id ops d =>
  intro st e Aj s s' h g;refine kB ?_ h g;intro st Aj e s s' h g;obtain ⟨st1,s1,h1,k1⟩:=aD h;obtain ⟨he,rfl⟩:=aI k1;cases he;exact aSf hT hE hm h1 g
 | seq a b iha ihb =>
  intro st e Aj s s' h g;refine kB ?_ h g;intro st Aj e s s' h g C0 M0 w0 ac w hk hs ro hro n;obtain ⟨⟨e1,st1⟩,s1,h1,k1⟩:=aD h;refine wpIn_seq ?_;cases e1 with
  | normal =>
   have g1:=(rS b st1).good k1 g;refine wpIn_mono (iha h1 g1 C0 M0 w0 ac w hk hs ro hro.seq1 n) ?_;rintro e' a' w' ⟨rfl,Bh⟩;exact ihb k1 g C0 M0 w0 a' w' hk Bh ro hro.seq2 n
  | ret =>
   obtain ⟨he,rfl⟩:=aI k1;cases he;refine wpIn_mono (iha h1 g C0 M0 w0 ac w hk hs ro hro.seq1 n) ?_;rintro e' a' w' ⟨rfl,Bh⟩;exact ⟨rfl,Bh⟩
  | exit id =>
   obtain ⟨he,rfl⟩:=aI k1;cases he;refine wpIn_mono (iha h1 g C0 M0 w0 ac w hk hs ro hro.seq1 n) ?_;rintro e' a' w' ⟨rfl,Bh⟩;exact ⟨rfl,Bh⟩
 | cond c a b iha ihb =>
  intro st e Aj s s' h g;refine kB ?_ h g;intro st Aj e s s' h g C0 M0 w0 ac w hk hs ro hro n;obtain ⟨x,s1,h1,k1⟩:=aD h;obtain ⟨e1,rfl⟩:=aF h1;obtain ⟨d,s2,h2,k2⟩:=aD k1;have Jo:=hs;obtain ⟨C,hS,_⟩:=Jo;cases d with
  | true =>
   obtain ⟨hb,_⟩:=pA (hS.ev e1) h2 ((rS a st).good k2 g);exact wpIn_cond_true hb (iha k2 g C0 M0 w0 ac w hk hs ro hro.cond1 n)
  | false =>
   obtain ⟨hb,_⟩:=pA (hS.ev e1) h2 ((rS b st).good k2 g);exact wpIn_cond_false hb (ihb k2 g C0 M0 w0 ac w hk hs ro hro.cond2 n)
 | block id b ih =>
  intro st e Aj s s' h g;refine kB ?_ h g;intro st Aj e s s' h g C0 M0 w0 ac w hk hs ro hro n;obtain ⟨⟨e1,st1⟩,s1,h1,k1⟩:=aD h;refine wpIn_block ?_;cases e1 with
  | normal =>
   obtain ⟨he,rfl⟩:=aI k1;cases he;refine wpIn_mono (ih h1 g C0 M0 w0 ac w hk hs ro hro.block n) ?_;rintro e' a' w' ⟨rfl,Bh⟩;exact ⟨rfl,Bh⟩
  | ret =>
   obtain ⟨he,rfl⟩:=aI k1;cases he;refine wpIn_mono (ih h1 g C0 M0 w0 ac w hk hs ro hro.block n) ?_;rintro e' a' w' ⟨rfl,Bh⟩;exact ⟨rfl,Bh⟩
  | exit i =>
   dsimp only at k1
   cases hb:Nat.beq i id with
   | true =>
    rw [hb] at k1
    obtain ⟨he,rfl⟩:=aI k1;cases he;have hid:i=id:=Nat.eq_of_beq_eq_true hb;refine wpIn_mono (ih h1 g C0 M0 w0 ac w hk hs ro hro.block n) ?_;rintro e' a' w' ⟨rfl,Bh⟩;simp only [Ex.toExit,Exit.inBlock,hid,if_true];exact ⟨trivial,Bh⟩
   | false =>
    rw [hb] at k1
    obtain ⟨he,rfl⟩:=aI k1;cases he;have hid:i≠id:=Nat.ne_of_beq_eq_false hb;refine wpIn_mono (ih h1 g C0 M0 w0 ac w hk hs ro hro.block n) ?_;rintro e' a' w' ⟨rfl,Bh⟩;simp only [Ex.toExit,Exit.inBlock,hid,if_false];exact ⟨trivial,Bh⟩
 | loop b ih =>
  intro st e Aj s s' h g;refine kB ?_ h g;intro st Aj e s s' h g C0 M0 w0 ac w hk hs ro hro n;refine wpIn_mono (LoopIn.wp (zD (rS b) ih fuel (bKw h) g C0 M0 w0 ac w hk hs ro hro.loop n)) ?_;rintro e' a' w' ⟨h1,_,h2⟩;exact ⟨h1,h2⟩
 | exit id =>
  intro st e Aj s s' h g C0 M0 w0 a w hk hs ro hro n;obtain ⟨he,rfl⟩:=aI h;cases he;exact wpIn_exit ⟨rfl,hs⟩
 | label l =>
  intro st e Aj s s' h g C0 M0 w0 a w hk hs ro hro n;obtain ⟨he,rfl⟩:=aI h;cases he;exact wpIn_label ⟨rfl,hs⟩
 | scope b ih =>
  intro st e Aj s s' h g C0 M0 w0 a w hk hs ro hro n;refine aSg (wpIn_mono (ih h g C0 M0 w0 a w hk hs ro hro.scope n) ?_);rintro e' a' w' ⟨rfl,Bh⟩;exact ⟨fun l=>by cases e <;> simp [Ex.toExit],rfl,Bh⟩
 | ret =>
  intro st e Aj s s' h g C0 M0 w0 a w hk hs ro hro n;obtain ⟨he,rfl⟩:=aI h;cases he;exact wpIn_ret ⟨rfl,hs⟩
 | _ =>
  intro st e Aj s s' h g;refine kB ?_ h g;intro st Aj e s s' h g;exact (aT h).elim
end
section
variable {P:Program} {T:TT} {E:Env} {C C0:Cx} {M M0:Mem} {w w0:World}

def cFh(T:TT)(st:St):ResultVar→Ask AV
 | .tmp t=>lift st.t[t]?
 | .cell a t=>do
  let x ← lift st.t[a]?
  vload T st.m t x
def aSc(T:TT)(st:St):List ResultVar→Ask (List AV)
 | []=>pure []
 | r::l=>do
  let x ← cFh T st r
  let xs ← aSc T st l
  pure (x::xs)
def bKu:List AV→AV
 | [x]=>x
 | l => .tup l

def aGy:Mem→Bool
 | []=>true
 | some (.pk _ _ _ _)::_=>false
 | _::r=>aGy r
theorem xH:∀ {m:Mem},aGy m=true→bCr m
 | [],_,i,o,h=>by simp at h
 | none::r,hm,i,o,h=>by
  cases i with
  | zero=>simp at h
  | succ i=>exact xH (m:=r) hm i o (by simpa using h)
 | some x::r,hm,i,o,h=>by
  cases i with
  | zero =>
   simp at h;subst h
   cases x with
   | pk=>simp [aGy] at hm
   | _=>rfl
  | succ i =>
   refine xH (m:=r) ?_ i o (by simpa using h)
   cases x with
   | pk=>simp [aGy] at hm
   | _=>simpa [aGy] using hm
def aSd(P:Program)(T:TT)(E:Env)(fuel:Nat)(fn:Func)(c:Code)(args:List AV)(m:Mem):Ask (AV × Mem):=do
 lift (if aGy m=true then some () else none)
 let r ← aAe P T E m.length fuel c ⟨args++List.replicate (fn.ntmps-args.length) .any,m⟩
 match r.1 with
 | .exit _=>fail
 | _=>do
  let l ← aSc T r.2 fn.results.toList
  pure (bKu l,r.2.m)

def FMM(P:Program)(f:Nat)(args:List AV)(M:Mem)(r:AV)(M':Mem):Prop :=
 ∀ (C:Cx) (w:World) (us:List Value),cH C M w args us→aP P C M w→∀ n,CallsIn Fence.wide n P f us.toArray w (fun e w'=>∃ u,e = .returned u∧∃ C',Fr C M w C' M' w'∧aP P C' M' w'∧Rep C' M' w' r u)

def tK(P:Program)(f:Nat)(args:List AV)(M:Mem)(r:AV)(M':Mem):Prop :=
 ∀ (C:Cx) (w:World) (us:List Value),cH C M w args us→aP P C M w→∀ n,CallsIn Fence.wide n P f us.toArray w (fun e w'=>∃ u,e = .returned u∧∃ C',Fr C M w C' M' w'∧aP P C' M' w'∧Rep C' M' w' r u∧lZ (C.with []) M M' C' w w')
theorem tK.fmm{f:Nat}{args:List AV}{M M':Mem}{r:AV}(h:tK P f args M r M'):FMM P f args M r M':=fun C w us hus hM n=>(h C w us hus hM n).mono fun _ w' ⟨u,q,C',h1,h2,h3,_⟩=>⟨u,q,C',h1,h2,h3⟩

theorem xI{st:St}:∀ (l:List ResultVar),bV (aSc T st l)
 | []=>aJ _
 | r::l=>by
  unfold aSc;refine bG ?_ fun _=>bG (xI l) fun _=>aJ _
  cases r with
  | tmp t=>exact lV _
  | cell a t=>exact aG fun _=>aCd

def aBl(tmps:Array Value):ResultVar→Sem Value
 | .tmp t=>pure (tmps.getD t undef)
 | .cell a t=>do loadVar t (← asAddr (tmps.getD a undef))

theorem bBy{t:Nat}{y x:AV}{u:Value}{s s':AS}(h:vload T M t y s=some (x,s'))(hy:Rep C M w y u):∃ p,u = .pointer (some p):=by
 unfold vload at h
 obtain ⟨i,s1,h1,k1⟩:=aD h
 split at k1
 ·rename_i id off
  obtain ⟨o,s2,h2,k2⟩:=aD k1;obtain ⟨e2,rfl⟩:=aF h2;have hl:o.live=true:=by
   cases o with
   | dead=>exact (aT k2).elim
   | _=>rfl
  obtain ⟨b,hu,_⟩:=fX hy (iI (dP e2) hl);exact ⟨_,hu⟩
 ·cases hy;exact ⟨_,rfl⟩
 ·exact (aT k1).elim

theorem aSe(hT:∀ t i,T t=some i→bX P t=some i)(hM:aP P C M w){ts:List AV}{us:Array Value}(hS:eC C M w ts us){r:ResultVar}{x:AV}{s s':AS}(h:cFh T ⟨ts,M⟩ r s=some (x,s'))(g:bB s') :
  ∃ u,(aBl us r).run P w = .ok u w∧Rep C M w x u:=by
 cases r with
 | tmp t =>
  obtain ⟨e1,rfl⟩:=aF h;exact ⟨_,rfl,hS.at e1⟩
 | cell a t =>
  obtain ⟨y,s1,h1,k1⟩:=aD h;obtain ⟨e1,rfl⟩:=aF h1;obtain ⟨_,u,h2,h3⟩:=zP hT hM (hS.at e1) k1 g
  refine ⟨u,?_,h3⟩;obtain ⟨p,hp⟩:=bBy k1 (hS.at e1)
  unfold Instr.loadAt at h2
  simp only [aBl];rw [hp] at h2 ⊢
  exact h2

theorem aBm(hT:∀ t i,T t=some i→bX P t=some i)(hM:aP P C M w){ts:List AV}{us:Array Value}(hS:eC C M w ts us):∀ (l:List ResultVar) {xs:List AV} {s s':AS},aSc T ⟨ts,M⟩ l s=some (xs,s')→bB s' →
  ∃ vs:List Value,(l.mapM (aBl us)).run P w = .ok vs w∧cH C M w xs vs
 | [],xs,s,s',h,g=>by
  obtain ⟨rfl,rfl⟩:=aI h;exact ⟨[],rfl,.nil⟩
 | r::l,xs,s,s',h,g=>by
  obtain ⟨x,s1,h1,k1⟩:=aD h;obtain ⟨ys,s2,h2,k2⟩:=aD k1;obtain ⟨rfl,rfl⟩:=aI k2;obtain ⟨u,e1,r1⟩:=aSe hT hM hS h1 ((xI l).good h2 g);obtain ⟨vs,e2,r2⟩:=aBm hT hM hS l h2 g;refine ⟨u::vs,?_,.cons _ _ _ _ r1 r2⟩;rw [List.mapM_cons,Sem.run_bind,e1,Result.andThen_ok,Sem.run_bind,e2,Result.andThen_ok,Sem.run_pure]

theorem aNe{fn:Func}{us:Array Value}{vs:List Value}(h:(fn.results.toList.mapM (aBl us)).run P w = .ok vs w):(results fn us).run P w = .ok (if _:vs.length=1 then vs[0] else .tuple vs.toArray) w:=by
 have e:(results fn us)=(do let vs ← fn.results.mapM (aBl us);pure (if h:vs.size=1 then vs[0] else .tuple vs)):=by
  unfold results
  congr 1
 rw [e,Sem.run_bind,Array.mapM_eq_mapM_toList,Sem.run_map,h,Result.andThen_ok,Result.andThen_ok,Sem.run_pure]
 congr 1

theorem bRk{xs:List AV}{vs:List Value}(h:cH C M w xs vs):Rep C M w (bKu xs) (if _:vs.length=1 then vs[0] else .tuple vs.toArray):=by
 have hl:=h.len;cases h with
 | nil=>exact .tup [] _ rfl (fun i h=>by simp at h)
 | cons x u l k hx hr =>
  cases hr with
  | nil=>exact hx
  | cons y v l k hy hr =>
   have hne:¬ (u::v::k).length=1:=by simp
   rw [dif_neg hne];refine .tup _ _ (by simpa using hl) (fun i hi => ?_)
   have:=(cH.cons x u _ _ hx (cH.cons y v l k hy hr)).at i hi
   rwa [← bU] at this

theorem Sim.take{st:St}{a:Act}{d:Deferred}{ds:List Deferred}(h:Sim P C0 M0 w0 st a w)(hd:a.defers=d::ds):∃ D,d=mark D∧w.heap[D]? = some (.deferred (some []))∧Sim P C0 M0 w0 st { a with defers:=ds } (w.putObj D (.deferred none)):=by
 obtain ⟨C,hS,hM,hF,⟨l,h1,h2,h3⟩,hR,hP⟩:=h;rw [hd] at h1
 cases l with
 | nil=>simp at h1
 | cons D l =>
  rw [iK,List.cons.injEq] at h1
  obtain ⟨rfl,rfl⟩:=h1;obtain ⟨q1,q2,q3⟩:=h3 D (by simp)
  obtain ⟨hnd,Oh⟩:=List.nodup_cons.1 h2;have hg:=grownBy_putObj' w D (.deferred none);have hsz:(w.putObj D (.deferred none)).heap.size=w.heap.size:=by simp [World.putObj]
  have hk:∀ b,b≠D→(w.putObj D (.deferred none)).heap[b]? = w.heap[b]? := fun b hb=>by
   rcases Nat.lt_or_ge b w.heap.size with h | h
   ·exact hg.block b h (by simpa using hb)
   ·rw [Array.getElem?_eq_none h,Array.getElem?_eq_none (by omega)]
  have hlive:∀ (id:Nat) (o:AO) (b:Nat),st.m[id]? = some (some o)→o.live=true→C.ι id=some b→b≠D:=fun id o b ho hl hb e=>by
   subst e;exact aNr hM hP ho hl hb q1
  have hL:Le C C st.m st.m w (w.putObj D (.deferred none)):=⟨fun _ o h=>⟨o,h⟩,fun _ _ _ _ _ cs h=>⟨cs,h⟩,fun _ o h o' h' hl=>by rw [h] at h';cases h';exact ⟨hl,rfl,rfl⟩,fun _ h=>h,fun b hb=>hk b fun e=>q3 (e ▸ hb)⟩
  refine ⟨D,rfl,q1,C,hS.le hL,⟨fun i Cc n cs hm => ?_,fun i Cc cs hm => ?_,fun i es cl hm => ?_,hM.inj,hM.nF,fun b hb=>by rw [hsz];exact hM.Fs b hb,fun i x b hm hl hb=>by rw [hsz];exact hM.lt i x b hm hl hb⟩,
   ⟨hg.os.trans hF.os,hg.tape.trans hF.tape,hg.output.trans hF.out,jY hF.size hg.size,fun b hb hn=>(hk b (by omega)).trans (hF.keep b hb hn),hF.ids,hF.row,hF.liv,hF.new,hF.F1,hF.F2⟩,⟨l,rfl,Oh,fun D' Ka => ?_⟩,fun p hp => ?_,fun i to ti sz L hm => ?_,hP.2⟩
  ·rcases hM.row _ _ _ _ hm with h4 | ⟨b,arr,inf,q0,Io,Ip,Jn,q4,q5,q6,q7,q8⟩
   ·exact .inl h4
   ·exact .inr ⟨b,arr,inf,q0,by rw [hk b (hlive _ _ _ hm rfl q0)];exact Io,Ip,Jn,q4,q5,q6,fun j hj=>(q7 j hj).mono hL.F hL.fz,q8⟩
  ·obtain ⟨b,arr,q0,Io,Ip,Jn,q4⟩:=hM.box _ _ _ hm
   exact ⟨b,arr,q0,by rw [hk b (hlive _ _ _ hm rfl q0)];exact Io,Ip,fun j hj=>(Jn j hj).mono hL,q4⟩
  ·obtain ⟨b,arr,q0,Io,Ip,Jn⟩:=hM.mp _ _ _ hm
   refine ⟨b,arr,q0,by rw [hk b (hlive _ _ _ hm rfl q0)];exact Io,Ip,fun j hj => ?_⟩
   obtain ⟨en,r1,r2,r3,r4⟩:=Jn j hj;exact ⟨en,r1,r2,r3,r4.mono hL.F hL.fz⟩
  ·obtain ⟨r1,r2,r3⟩:=h3 D' (B3 _ Ka)
   exact ⟨by rw [hk D' (fun e=>hnd (e ▸ Ka))];exact r1,r2,r3⟩
  ·obtain ⟨r1,r2,r3,r4,r5⟩:=hR p hp
   exact ⟨by rw [hk p.1 (fun e=>r3 (by rw [e,q1] at r1;exact (Option.some.inj r1).symm))];exact r1,r2,r3,r4,r5⟩
  ·obtain ⟨p,p0,p1⟩:=hP.1 _ _ _ _ _ hm
   exact ⟨p.move p.io rfl (fun _ h=>h) hL.fz fun b hb=>⟨hk b (fun e=>by
    obtain ⟨_,arr,ty,r1⟩:=p.lt hb;rw [e,q1] at r1;cases r1),p.own b hb⟩,p0,p1⟩

theorem zC(hT:∀ t i,T t=some i→bX P t=some i)(hE:nY P E)(hm:P.follows .mixedOrders=true){fuel f:Nat}{fn:Func}{c:Code}(hf:P.funcs[f]? = some fn)(hb:fn.body=some c){args:List AV}{r:AV}{M':Mem}{s s':AS}
  (h:aSd P T E fuel fn c args M s=some ((r,M'),s')) (g:bB s'):tK P f args M r M':=by
 intro C w us hus hM n;unfold aSd at h
 obtain ⟨_,s0,h0,k0⟩:=aD h;obtain ⟨e0,rfl⟩:=aF h0;have hnp:=xH (bO e0).1;obtain ⟨⟨e,st⟩,s1,h1,k1⟩:=aD k0;have hlen:=hus.len;have hS:eC C M w (args++List.replicate (fn.ntmps-args.length) .any) (us.toArray++Array.replicate (fn.ntmps-us.toArray.size) undef):=by
  refine ⟨by simp [hlen],fun i hi => ?_⟩
  by_cases c1:i<args.length
  ·rw [aAi c1,Bm,Array.getElem?_append_left (by simp;omega)]
   have:=hus.at i c1
   rwa [← bU,Bm] at this
  ·rw [aOu (by omega),List.getElem_replicate]
   exact .any _
 have hsim:Sim P (C.with []) M w ⟨args++List.replicate (fn.ntmps-args.length) .any,M⟩ { tmps:=us.toArray++Array.replicate (fn.ntmps-us.toArray.size) undef,defers:=[] } w:=⟨C,hS,hM,(Fr.refl ..).based [],.nil rfl hnp⟩
 refine callsIn_of_wp_marks hf hb trivial ?_;have fin:∀ (e':Exit) (a':Act) (w':World),(e' = .normal∨e' = .ret)→Sim P (C.with []) M w st a' w'→(∃ l s2,aSc T st fn.results.toList s1=some (l,s2)∧bB s2∧r=bKu l∧M'=st.m)→bodyPostM Fence.wide n P fn (fun e w'=>∃ u,e = .returned u∧∃ C',Fr C M w C' M' w'∧aP P C' M' w'∧Rep C' M' w' r u∧lZ (C.with []) M M' C' w w') e' a' w':=by
  rintro e' a' w' he Bh ⟨l,s2,h2,g2,rfl,rfl⟩;have key:∀ (ds:List Deferred) (a':Act) (w':World),a'.defers=ds→Sim P (C.with []) M w st a' w'→LeavesInM Fence.wide n P fn a'.tmps (fun e w'=>∃ u,e = .returned u∧∃ C',Fr C M w C' st.m w'∧aP P C' st.m w'∧Rep C' st.m w' (bKu l) u∧lZ (C.with []) M st.m C' w w') ds .returning w':=by
   intro ds
   induction ds with
   | nil =>
    rintro a' w' hd ⟨C',Sd,Eb,Iq,_,_,Se⟩;obtain ⟨ts,m⟩:=st;obtain ⟨vs,e2,r2⟩:=aBm hT Eb Sd fn.results.toList h2 g2;exact ⟨_,aNe e2,_,rfl,C',Iq.unbased,Eb,bRk r2,Se⟩
   | cons d ds ih =>
    intro a' w' hd Bh;obtain ⟨D,rfl,hD,Kb⟩:=Bh.take hd;exact ⟨by simp,.inl ⟨_,_,rfl,run_takeDeferred hD,ih { a' with defers:=ds } _ rfl Kb⟩⟩
  rcases he with rfl | rfl
  ·exact key _ a' w' rfl Bh
  ·exact key _ a' w' rfl Bh
 have out:(e = .normal∨e = .ret)∧∃ l s2,aSc T st fn.results.toList s1=some (l,s2)∧bB s2∧r=bKu l∧M'=st.m:=by
  cases e with
  | exit id=>exact (aT k1).elim
  | normal =>
   obtain ⟨l,s2,h2,k2⟩:=aD k1;obtain ⟨he,rfl⟩:=aI k2;cases he;exact ⟨.inl rfl,l,_,h2,g,rfl,rfl⟩
  | ret =>
   obtain ⟨l,s2,h2,k2⟩:=aD k1;obtain ⟨he,rfl⟩:=aI k2;cases he;exact ⟨.inr rfl,l,_,h2,g,rfl,rfl⟩
 obtain ⟨he,l,s2,h2,g2,e3,e4⟩:=out;have g1:=(xI _).good h2 g2;refine wpIn_mono (aBn hT hE hm c h1 g1 (C.with []) M w _ w (dJ _) hsim none (.inl rfl) n) ?_
 rintro e' a' w' ⟨rfl,Bh⟩;exact fin _ a' w' (by rcases he with rfl | rfl <;> simp [Ex.toExit]) Bh ⟨l,s2,h2,g2,e3,e4⟩
end
section
variable {P:Program} {T:TT} {E:Env} {C C0:Cx} {M M0:Mem} {w w0:World}

mutual
def aNd:PV→Bool
 | .v _=>true
 | .sl _ cs=>match cs with
  | []=>true
  | _=>false
 | .agg cs=>yZ cs
 | .mp _=>false
 | .rp _ _=>false
def yZ:List PV→Bool
 | []=>true
 | x::r=>match aNd x with
  | true=>yZ r
  | false=>false
end
mutual
def rig:AV→Bool
 | .p x=>aNd x
 | .kb _=>true
 | .any=>true
 | .yld _=>true
 | .agg cs=>aSb cs
 | .fn _ a b=>match aSb a with
  | true=>aSb b
  | false=>false
 | _=>false
def aSb:List AV→Bool
 | []=>true
 | x::r=>match rig x with
  | true=>aSb r
  | false=>false
end
mutual
def noRef:AV→Bool
 | .p _=>true
 | .kb _=>true
 | .any=>true
 | .yld _=>true
 | .rp _ _=>true
 | .agg cs=>iJ cs
 | .fn _ a b=>match iJ a with
  | true=>iJ b
  | false=>false
 | _=>false
def iJ:List AV→Bool
 | []=>true
 | x::r=>match noRef x with
  | true=>iJ r
  | false=>false
end

theorem aBk:∀ {l:List PV},yZ l=true→∀ i (h:i<l.length),aNd l[i]=true
 | [],_,i,h=>by simp at h
 | x::r,hr,i,h=>by
  unfold yZ at hr
  split at hr
  ·cases i with
   | zero=>assumption
   | succ i=>exact aBk hr i (by simpa using h)
  ·cases hr
theorem aAp:∀ {l:List AV},aSb l=true→∀ i (h:i<l.length),rig l[i]=true
 | [],_,i,h=>by simp at h
 | x::r,hr,i,h=>by
  unfold aSb at hr
  split at hr
  ·cases i with
   | zero=>assumption
   | succ i=>exact aAp hr i (by simpa using h)
  ·cases hr
theorem nU:∀ {l:List AV},iJ l=true→∀ i (h:i<l.length),noRef l[i]=true
 | [],_,i,h=>by simp at h
 | x::r,hr,i,h=>by
  unfold iJ at hr
  split at hr
  ·cases i with
   | zero=>assumption
   | succ i=>exact nU hr i (by simpa using h)
  ·cases hr

theorem bQ.rig{F G:Nat→Prop}{w w':World}{x:PV}{u:Value}(h:bQ F w x u)(hr:aNd x=true):bQ G w' x u:=by
 induction h with
 | v x=>exact .v x
 | sl n cs p cap us h1 h2 h3 _ h5 ih =>
  cases cs with
  | nil=>exact .sl n [] p cap us h1 h2 (fun i h=>by simp at h) (fun i h=>by simp at h) (fun i h=>by simp at h)
  | cons=>simp [aNd] at hr
 | agg cs vs h0 h1 _ ih =>
  have Fx:yZ cs=true:=by simpa [aNd] using hr
  exact .agg cs vs h0 h1 fun i hi=>ih i hi (aBk Fx i hi)
 | mp=>simp [aNd] at hr
 | rp=>simp [aNd] at hr

theorem Rep.rig{C C':Cx}{M M':Mem}{w w':World}{x:AV}{u:Value}(h:Rep C M w x u)(hr:rig x=true):Rep C' M' w' x u:=by
 induction h with
 | p x u h=>exact .p x u (h.rig (by simpa [KV.rig] using hr))
 | any u=>exact .any u
 | kb b=>exact .kb b
 | yld l=>exact .yld l
 | agg cs vs h0 h1 _ ih =>
  have Fx:aSb cs=true:=by simpa [KV.rig] using hr
  exact .agg cs vs h0 h1 fun i hi=>ih i hi (aAp Fx i hi)
 | fn f cs ds us vs h1 h2 _ _ J8 J9 =>
  simp only [KV.rig] at hr
  split at hr
  ·rename_i Gg
   exact .fn f cs ds us vs h1 h2 (fun i hi=>J8 i hi (aAp Gg i hi)) (fun i hi=>J9 i hi (aAp hr i hi))
  ·cases hr
 | _=>simp [KV.rig] at hr

theorem Rep.noRef{C C':Cx}{M M':Mem}{w w':World}{x:AV}{u:Value}(h:Rep C M w x u)(hr:noRef x=true)(hF:∀ b,C.F b→C'.F b)(hz:∀ b,C.F b→w'.heap[b]? = w.heap[b]?):Rep C' M' w' x u:=by
 induction h with
 | p x u h=>exact .p x u (h.mono hF hz)
 | any u=>exact .any u
 | kb b=>exact .kb b
 | yld l=>exact .yld l
 | rp cs off b o us h1 h2 h3=>exact .rp cs off b o us (fun i hi=>⟨hF _ (h1 i hi).1,(dQ (hz _ (h1 i hi).1) _).trans (h1 i hi).2⟩) (fun i hi=>(h2 i hi).mono hF hz) h3
 | agg cs vs h0 h1 _ ih =>
  have Fx:iJ cs=true:=by simpa [KV.noRef] using hr
  exact .agg cs vs h0 h1 fun i hi=>ih i hi (nU Fx i hi)
 | fn f cs ds us vs h1 h2 _ _ J8 J9 =>
  simp only [KV.noRef] at hr
  split at hr
  ·rename_i Gg
   exact .fn f cs ds us vs h1 h2 (fun i hi=>J8 i hi (nU Gg i hi)) (fun i hi=>J9 i hi (nU hr i hi))
  ·cases hr
 | _=>simp [KV.noRef] at hr

def Cx.bare(C:Cx)(G:Nat→Prop):Cx:={ ι:=fun _=>none,κ:=C.κ,F:=G }

section
variable {G:Nat→Prop} (hM:aP P C M w) (hG:∀ b,C.F b→G b) (hO:∀ (id:Nat) (o:AO) (b:Nat),M[id]? = some (some o)→o.live=true→C.ι id=some b→G b)
include hM hG hO

theorem zA{x:AV}{u:Value}{y:PV}(h:Rep C M w x u)(hv:Ee M x=some y):bQ G w y u:=by
 unfold Ee at hv
 split at hv
 ·cases hv;cases h with | p _ _ h=>exact h.mono hG (fun _ _=>rfl)
 ·cases hv;cases h;exact .v _
 ·split at hv
  ·rename_i id _ r hr
   cases hv;have ho:=cQ hr;refine (tZ hM ho h).mono (fun b hb => ?_) (fun _ _=>rfl)
   rcases hb with hb | ⟨_,hb⟩
   ·exact hG b hb
   ·exact hO _ _ b ho rfl hb
  ·cases hv
 ·cases hv

theorem zB:∀ {l:List AV} {us:Nat→Value} {ys:List PV},(∀ i (h:i<l.length),Rep C M w l[i] (us i))→aCg M l=some ys→ys.length=l.length∧∀ i (h:i<ys.length),bQ G w ys[i] (us i)
 | [],_,ys,_,hv=>by cases hv;exact ⟨rfl,fun i h=>by simp at h⟩
 | x::r,us,ys,h,hv=>by
  unfold aCg at hv
  split at hv
  ·rename_i y h1
   split at hv
   ·rename_i l h2
    cases hv;obtain ⟨q1,q2⟩:=zB (us:=fun i=>us (i+1)) (fun i hi=>h (i+1) (by simpa using hi)) h2
    refine ⟨by simp [q1],fun i hi => ?_⟩
    cases i with
    | zero=>exact zA hM hG hO (h 0 (by simp)) h1
    | succ i=>exact q2 i (by simpa using hi)
   ·cases hv
  ·cases hv

set_option linter.unusedSectionVars false in
mutual
theorem tJ:∀ {x:AV} {u:Value} {y:AV},Rep C M w x u→view M x=some y→Rep (C.bare G) [] w y u
 | .p x,u,y,h,hv=>by
  simp only [view] at hv
  cases hv;cases h with | p _ _ h=>exact .p _ _ (h.mono hG (fun _ _=>rfl))
 | .kb b,u,y,h,hv=>by simp only [view] at hv;cases hv;cases h;exact .kb _
 | .any,u,y,h,hv=>by simp only [view] at hv;cases hv;exact .any _
 | .yld l,u,y,h,hv=>by simp only [view] at hv;cases hv;cases h;exact .yld _
 | .own id,u,y,h,hv=>by
  simp only [view] at hv
  split at hv
  ·rename_i r hr
   cases hv;exact .p _ _ (zA hM hG hO h (by simp only [Ee,hr]))
  ·cases hv
 | .rp cs off,u,y,h,hv=>by
  simp only [view] at hv
  cases hv;cases h with
  | rp _ _ b o us h1 h2 h3=>exact .rp cs off b o us (fun i hi=>⟨hG _ (h1 i hi).1,(h1 i hi).2⟩) (fun i hi=>(h2 i hi).mono hG (fun _ _=>rfl)) h3
 | .ptr id off,u,y,h,hv=>by
  simp only [view] at hv
  split at hv
  ·rename_i ty n cs ho
   cases hv;have ho:=dP ho;obtain ⟨b,rfl,hb⟩:=fX h (iI ho rfl)
   rcases hM.row _ _ _ _ ho with ⟨hn,_⟩ | ⟨b',arr,inf,Al,q1,q2,q3,q4,q5,q6,q7,q8⟩
   ·rw [hb] at hn;cases hn
   ·rw [hb] at Al;cases Al
    have hle:cs.length≤arr.size:=by rw [q3,q4];exact Nat.mul_le_mul_right _ q5
    have:=Rep.rp (C:=C.bare G) (M:=[]) (w:=w) cs off b 0 (fun j=>arr.getD j undef) (fun i hi=>⟨hO _ _ b ho rfl hb,by rw [gP];exact bP q1 (by omega)⟩) (fun i hi=>(q7 i hi).mono hG (fun _ _=>rfl)) q8
    rwa [gP] at this
  ·rename_i ty cs ho
   have ho:=dP ho
   split at hv
   ·rename_i xs hx
    cases hv;obtain ⟨b,rfl,hb⟩:=fX h (iI ho rfl);obtain ⟨b',arr,Al,q1,q2,q3,q4⟩:=hM.box _ _ _ ho;rw [hb] at Al;cases Al
    obtain ⟨r1,r2⟩:=zB hM hG hO (us:=fun j=>arr.getD j undef) q3 hx
    have:=Rep.rp (C:=C.bare G) (M:=[]) (w:=w) xs off b 0 (fun j=>arr.getD j undef) (fun i hi=>⟨hO _ _ b ho rfl hb,by rw [gP];exact bP q1 (by omega)⟩) r2 (fun i hi=>q4 i (by omega))
    rwa [gP] at this
   ·cases hv
  ·cases hv
 | .agg cs,u,y,h,hv=>by
  simp only [view] at hv
  split at hv
  ·rename_i xs hx
   cases hv;cases h with
   | agg _ vs h0 h1 h2 =>
    obtain ⟨q1,q2⟩:=kR (us:=fun i=>vs.getD i undef) h2 hx
    exact kS (fun i hi=>h0 i (by omega)) (by omega) q2
  ·cases hv
 | .fn f a b,u,y,h,hv=>by
  simp only [view] at hv
  split at hv
  ·rename_i a' ha
   split at hv
   ·rename_i b' hb
    cases hv;cases h with
    | fn _ _ _ us vs h1 h2 h3 h4 =>
     obtain ⟨q1,q2⟩:=kR (us:=fun i=>us.getD i undef) h3 ha
     obtain ⟨r1,r2⟩:=kR (us:=fun i=>vs.getD i undef) h4 hb
     exact .fn f a' b' us vs (by omega) (by omega) q2 r2
   ·cases hv
  ·cases hv
 | .arr id off n,u,y,h,hv=>by
  simp only [view] at hv
  split at hv
  ·rename_i r hr
   cases hv;have ho:=cQ hr;cases h with
   | arr _ _ _ u h0 ha hrow =>
    rcases hrow _ ho rfl with ⟨rfl,p,cap,rfl,hc⟩ | ⟨b,cap,rfl,hn,hc,hb⟩
    ·rw [Nat.zero_mul,List.take_zero]
     exact .p _ _ (.sl 0 [] p cap (fun _=>undef) (Nat.zero_le _) hc (fun i h=>by simp at h) (fun i h=>by simp at h) (fun i h=>by simp at h))
    ·rcases hM.row _ _ _ _ ho with ⟨E1,_⟩ | ⟨b',arr,inf,Al,q1,q2,q3,q4,q5,q6,q7,q8⟩
     ·rw [hb] at E1;cases E1
     ·rw [hb] at Al;cases Al
      have hle:r.2.2.length≤arr.size:=by rw [q3,q4];exact Nat.mul_le_mul_right _ q5
      have hlt:∀ i,i<((r.2.2.drop off).take (n*(r.2.2.length / r.2.1))).length→off+i<r.2.2.length:=fun i hi=>by simp at hi;omega
      refine .p _ _ (.sl n _ _ cap (fun j=>arr.getD (off+j) undef) hn hc (fun i hi=>⟨b,off,rfl,hO _ _ b ho rfl hb,bP q1 (by have:=hlt i hi;omega)⟩) (fun i hi => ?_) (fun i hi=>q8 _ (hlt i hi)))
      simp only [List.getElem_take,List.getElem_drop];exact (q7 _ (hlt i hi)).mono hG (fun _ _=>rfl)
  ·cases hv
 | .tup _,_,_,_,hv=>by simp [view] at hv
 | .mp _,_,_,_,hv=>by simp [view] at hv
 | .pa _ _,_,_,_,hv=>by simp [view] at hv
theorem kR:∀ {l:List AV} {us:Nat→Value} {ys:List AV},(∀ i (h:i<l.length),Rep C M w l[i] (us i))→mP M l=some ys→ys.length=l.length∧∀ i (h:i<ys.length),Rep (C.bare G) [] w ys[i] (us i)
 | [],_,ys,_,hv=>by simp only [mP] at hv;cases hv;exact ⟨rfl,fun i h=>by simp at h⟩
 | x::r,us,ys,h,hv=>by
  simp only [mP] at hv
  split at hv
  ·rename_i y h1
   split at hv
   ·rename_i l h2
    cases hv;obtain ⟨q1,q2⟩:=kR (us:=fun i=>us (i+1)) (fun i hi=>h (i+1) (by simpa using hi)) h2
    refine ⟨by simp [q1],fun i hi => ?_⟩
    cases i with
    | zero=>exact tJ (h 0 (by simp)) h1
    | succ i=>exact q2 i (by simpa using hi)
   ·cases hv
  ·cases hv
end
end
end
section
variable {P:Program} {T:TT} {E:Env} {C C':Cx} {M M1:Mem} {w w':World}

def Cx.after(C:Cx)(w w':World)(kb:Option Nat):Cx:={ ι:=C.ι,κ:=C.κ,F:=fun b=>C.F b∨(w.heap.size≤b∧b<w'.heap.size∧kb≠some b) }

theorem uX(hM:aP P C M w){kb:Option Nat}(ho:w'.os=w.os)(ht:w'.tape=w.tape)(hu:w'.output=w.output)(hs:w.heap.size≤w'.heap.size)(hk:∀ b,b<w.heap.size→w'.heap[b]? = w.heap[b]?):Fr C M w (C.after w w' kb) M w'∧aP P (C.after w w' kb) M w':=by
 have hf:Fr C M w (C.after w w' kb) M w':=⟨ho,ht,hu,hs,fun b hb _=>hk b hb,fun _ x h=>⟨⟨x,h⟩,rfl,rfl⟩,fun _ _ _ _ _ cs h=>⟨cs,h⟩,fun _ o h o' h' hl=>by rw [h] at h';cases h';exact hl,
  fun i x _ h hl hb => .inr ⟨i,x,h,hl,hb⟩,fun _ h => .inl h,fun b h=>by rcases h with h | ⟨h,_⟩;exact .inl h;exact .inr (.inl h)⟩
 have hL:=hM.le hf;refine ⟨hf,fun i Cc n cs hm => ?_,fun i Cc cs hm => ?_,fun i es cl hm => ?_,hM.inj,fun i x b hm hl hb => ?_,fun b hb => ?_,fun i x b hm hl hb=>fK (hM.lt i x b hm hl hb) hs⟩
 ·rcases hM.row _ _ _ _ hm with h4 | ⟨b,arr,inf,q0,q1,q2,q3,q4,q5,q6,q7,q8⟩
  ·exact .inl h4
  ·exact .inr ⟨b,arr,inf,q0,(hk b (hM.lt _ _ _ hm rfl q0)).trans q1,q2,q3,q4,q5,q6,fun j hj=>(q7 j hj).mono hL.F hL.fz,q8⟩
 ·obtain ⟨b,arr,q0,q1,q2,q3,q4⟩:=hM.box _ _ _ hm
  exact ⟨b,arr,q0,(hk b (hM.lt _ _ _ hm rfl q0)).trans q1,q2,fun j hj=>(q3 j hj).mono hL,q4⟩
 ·obtain ⟨b,arr,q0,q1,q2,q3⟩:=hM.mp _ _ _ hm
  refine ⟨b,arr,q0,(hk b (hM.lt _ _ _ hm rfl q0)).trans q1,q2,fun j hj => ?_⟩
  obtain ⟨en,r1,r2,r3,r4⟩:=q3 j hj;exact ⟨en,r1,r2,r3,r4.mono hL.F hL.fz⟩
 ·rintro (h | ⟨h,_⟩)
  ·exact hM.nF i x b hm hl hb h
  ·have:=hM.lt i x b hm hl hb
   omega
 ·rcases hb with h | ⟨_,h,_⟩
  ·exact fK (hM.Fs b h) hs
  ·exact h

theorem bKt{C1:Cx}(hM:aP P C1 M w'){base b k ty n:Nat}{cs:List PV}(hf:xQ M base)(hnF:¬ C1.F b)(hold:∀ (i:Nat) (x:AO) (j:Nat),M[i]? = some (some x)→x.live=true→C1.ι i=some j→j<b)(hb:b<w'.heap.size)
  (hrow:∃ arr i,w'.heap[b]? = some (.cells arr ty (0,0))∧P.info? ty=some i∧arr.size=k*i.size∧cs.length=n*i.size∧n≤k∧k≤maxLen∧(∀ j (h:j<cs.length),bQ C1.F w' cs[j] (arr.getD j undef))∧∀ j,j<cs.length→(arr.getD j undef).oneCell'=true) :
  aP P (C1.grow base b k) (aX M base (some (.row ty n cs))) w'∧Le C1 (C1.grow base b k) M (aX M base (some (.row ty n cs))) w' w':=by
 have hne:∀ (i:Nat) (x:AO),M[i]? = some (some x)→i≠base:=fun i x h e=>hf x (e ▸ h)
 have hL:Le C1 (C1.grow base b k) M (aX M base (some (.row ty n cs))) w' w':=by
  refine ⟨fun i x h=>⟨x,(aN M base i _ x (fun e=>hne i x h e.symm)).2 h⟩,fun i x h ty n cs hm=>⟨cs,(aN M base i _ _ (fun e=>hne i x h e.symm)).1 hm⟩,fun i x h o' hm hl => ?_,fun _ h=>h,fun _ _=>rfl⟩
  have h4:=(aN M base i _ _ (fun e=>hne i x h e.symm)).1 hm
  rw [h] at h4;cases h4
  exact ⟨hl,by simp [Cx.grow,hne i x h],by simp [Cx.grow,hne i x h]⟩
 have Dr:∀ (i:Nat) (x:AO),i≠base→(aX M base (some (.row ty n cs)))[i]? = some (some x)→M[i]? = some (some x):=fun i x h=>(aN M base i _ x (fun e=>h e.symm)).1
 have hnew:∀ (x:AO),(aX M base (some (.row ty n cs)))[base]? = some (some x)→x = .row ty n cs:=fun x h=>by rw [aV] at h;cases h;rfl
 have hι:∀ i,i≠base→(C1.grow base b k).ι i=C1.ι i:=fun i h=>by simp [Cx.grow,h]
 have hκ:∀ i,i≠base→(C1.grow base b k).κ i=C1.κ i:=fun i h=>by simp [Cx.grow,h]
 have hιs:(C1.grow base b k).ι base=some b:=by simp [Cx.grow]
 have hκs:(C1.grow base b k).κ base=k:=by simp [Cx.grow]
 refine ⟨⟨fun i Cc n' Be hm => ?_,fun i Cc Be hm => ?_,fun i es cl hm => ?_,fun i i' o1 o2 j hm hl Cu De Bl Ct => ?_,fun i x j hm hl hj => ?_,fun j hj=>hM.Fs j hj,fun i x j hm hl hj => ?_⟩,hL⟩
 ·by_cases e:i=base
  ·subst e
   cases hnew _ hm;obtain ⟨arr,inf,q0,q1,q2,q3,q4,q5,q6,q7⟩:=hrow;exact .inr ⟨b,arr,inf,hιs,q0,q1,by rw [hκs];exact q2,q3,by rw [hκs];exact q4,by rw [hκs];exact q5,q6,q7⟩
  ·rw [hι i e,hκ i e]
   rcases hM.row _ _ _ _ (Dr i _ e hm) with h4 | ⟨j,arr,inf,q0,q1,q2,q3,q4,q5,q6,q7,q8⟩
   ·exact .inl h4
   ·exact .inr ⟨j,arr,inf,q0,q1,q2,q3,q4,q5,q6,q7,q8⟩
 ·by_cases e:i=base
  ·subst e;cases hnew _ hm
  ·rw [hι i e]
   obtain ⟨j,arr,q0,q1,q2,q3,q4⟩:=hM.box _ _ _ (Dr i _ e hm);exact ⟨j,arr,q0,q1,q2,fun j hj=>(q3 j hj).mono hL,q4⟩
 ·by_cases e:i=base
  ·subst e;cases hnew _ hm
  ·rw [hι i e]
   obtain ⟨j,arr,q0,q1,q2,q3⟩:=hM.mp _ _ _ (Dr i _ e hm);refine ⟨j,arr,q0,q1,q2,fun j hj => ?_⟩
   obtain ⟨en,r1,r2,r3,r4⟩:=q3 j hj;exact ⟨en,r1,r2,r3,r4.mono hL.F hL.fz⟩
 ·by_cases e:i=base
  ·by_cases e':i'=base
   ·rw [e,e']
   ·subst e
    rw [hιs] at Bl;cases Bl
    rw [hι i' e'] at Ct
    have:=hold i' _ _ (Dr i' _ e' Cu) De Ct;omega
  ·by_cases e':i'=base
   ·subst e'
    rw [hιs] at Ct;cases Ct
    rw [hι i e] at Bl
    have:=hold i _ _ (Dr i _ e hm) hl Bl;omega
   ·rw [hι i e] at Bl;rw [hι i' e'] at Ct
    exact hM.inj _ _ _ _ _ (Dr i _ e hm) hl (Dr i' _ e' Cu) De Bl Ct
 ·by_cases e:i=base
  ·subst e;rw [hιs] at hj;cases hj;exact hnF
  ·rw [hι i e] at hj;exact hM.nF _ _ _ (Dr i _ e hm) hl hj
 ·by_cases e:i=base
  ·subst e;rw [hιs] at hj;cases hj;exact hb
  ·rw [hι i e] at hj;exact hM.lt _ _ _ (Dr i _ e hm) hl hj
end
section
variable {P:Program} {T:TT} {E:Env} {C C':Cx} {M M1:Mem} {w w':World}

def aYy:List AV→Option Nat
 | []=>none
 | .own id::_=>some id
 | _::r=>aYy r
def bKr:AV→Option Nat
 | .own id=>some id
 | .tup l=>aYy l
 | _=>none
def bBv(m:Mem)(base k:Nat)(x:AV):Option AV:=match x with
 | .own id=>match Nat.beq id k with
  | true=>some (.own base)
  | false=>view m (.own id)
 | x=>view m x
def aYz(m:Mem)(base k:Nat):List AV→Option (List AV)
 | []=>some []
 | x::r=>match bBv m base k x with
  | some y=>match aYz m base k r with
   | some l=>some (y::l)
   | none=>none
  | none=>none
def bKs(m:Mem)(base k:Nat):AV→Option AV
 | .tup l=>match aYz m base k l with
  | some ys=>some (.tup ys)
  | none=>none
 | x=>bBv m base k x
def aMy(m:Mem)(base:Nat)(r:AV):Option (AV × Upd):=match bKr r with
 | some k=>match eX m k with
  | some q=>match bKs (upds m [(k,.dead)]) base k r with
   | some y=>some (y,[(base,.row q.1 q.2.1 q.2.2)])
   | none=>none
  | none=>none
 | none=>match bKs m base m.length r with
  | some y=>some (y,[])
  | none=>none

def bBw:AV→Bool
 | .own _=>true
 | x=>rig x
def aBi:List AV→Bool
 | []=>true
 | x::r=>match bBw x with
  | true=>aBi r
  | false=>false
def bBx:AV→Bool
 | .tup l=>aBi l
 | x=>bBw x
def aMz:Upd→Bool
 | []=>true
 | (_,.row _ _ cs)::r=>match yZ cs with
  | true=>aMz r
  | false=>false
 | _=>false
theorem aNa:∀ {l:List AV},aBi l=true→∀ i (h:i<l.length),bBw l[i]=true
 | [],_,i,h=>by simp at h
 | x::r,hr,i,h=>by
  unfold aBi at hr
  split at hr
  ·cases i with
   | zero=>assumption
   | succ i=>exact aNa hr i (by simpa using h)
  ·cases hr

theorem aNb{cs l:List AV}(h:jI cs = .tup l):False:=by
 unfold jI at h;split at h <;> cases h
theorem aNc{m:Mem}{x:AV}{l:List AV}(h:view m x=some (.tup l)):False:=by
 cases x with
 | agg cs =>
  simp only [view] at h
  split at h
  ·injection h with h;exact aNb h
  ·cases h
 | fn f a b =>
  simp only [view] at h
  split at h
  ·split at h <;> cases h
  ·cases h
 | ptr id off =>
  simp only [view] at h
  split at h
  ·cases h
  ·split at h <;> cases h
  ·cases h
 | own id=>simp only [view] at h;split at h <;> cases h
 | arr id off n=>simp only [view] at h;split at h <;> cases h
 | _=>simp [view] at h

theorem aBj{C2:Cx}{M2 m:Mem}{Ck:Cx}{base k:Nat}{A:Prop}(hM:aP P Ck m w')
  (hA:A→(∀ b,Ck.F b→C2.F b)∧∀ (id:Nat) (o:AO) (b:Nat),m[id]? = some (some o)→o.live=true→Ck.ι id=some b→C2.F b)
  (hk:∀ u,Rep C' M1 w' (.own k) u→Rep C2 M2 w' (.own base) u) (hL:Le C' Ck M1 m w' w') {x y:AV} {u:Value} (h:Rep C' M1 w' x u) (hx:bBv m base k x=some y) (hr:A∨bBw y=true):Rep C2 M2 w' y u:=by
 have sv:∀ {x y:AV} {u:Value},Rep C' M1 w' x u→view m x=some y→(A∨bBw y=true)→Rep C2 M2 w' y u:=fun {x y u} h hv hr=>by
  rcases hr with hr | hr
  ·obtain ⟨h1,h2⟩:=hA hr
   have:=tJ hM h1 h2 (h.mono hL) hv;have hle:Le (Ck.bare C2.F) C2 [] M2 w' w':=⟨fun _ _ h=>by simp at h,fun _ _ h=>by simp at h,fun _ _ h=>by simp at h,fun _ h=>h,fun _ _=>rfl⟩
   exact this.mono hle
  ·have:=tJ (G:=fun b=>Ck.F b∨∃ (id:Nat) (o:AO),m[id]? = some (some o)∧o.live=true∧Ck.ι id=some b) hM (fun _ h => .inl h) (fun id o b h1 h2 h3 => .inr ⟨id,o,h1,h2,h3⟩) (h.mono hL) hv
   cases y with
   | own id=>cases this with | own _ _ _ ha _=>obtain ⟨o,ho⟩:=ha;simp at ho
   | _=>exact this.rig hr
 unfold bBv at hx
 split at hx
 ·rename_i id
  split at hx
  ·rename_i hb
   cases hx;have:=Nat.eq_of_beq_eq_true hb;subst this;exact hk u h
  ·exact sv h hx hr
 ·exact sv h hx hr

theorem yY{C2:Cx}{M2 m:Mem}{Ck:Cx}{base k:Nat}{A:Prop}(hM:aP P Ck m w')
  (hA:A→(∀ b,Ck.F b→C2.F b)∧∀ (id:Nat) (o:AO) (b:Nat),m[id]? = some (some o)→o.live=true→Ck.ι id=some b→C2.F b)
  (hk:∀ u,Rep C' M1 w' (.own k) u→Rep C2 M2 w' (.own base) u) (hL:Le C' Ck M1 m w' w'):∀ {l ys:List AV} {us:Nat→Value},(∀ i (h:i<l.length),Rep C' M1 w' l[i] (us i))→aYz m base k l=some ys→(A∨aBi ys=true) →
   ys.length=l.length∧∀ i (h:i<ys.length),Rep C2 M2 w' ys[i] (us i)
 | [],ys,us,_,hx,_=>by cases hx;exact ⟨rfl,fun i h=>by simp at h⟩
 | x::r,ys,us,h,hx,hr=>by
  unfold aYz at hx
  split at hx
  ·rename_i y h1
   split at hx
   ·rename_i l h2
    cases hx;have Gg:A∨bBw y=true:=hr.imp id fun hr=>aNa (l:=y::l) hr 0 (by simp)
    have Ef:A∨aBi l=true:=hr.imp id fun hr=>by
     unfold aBi at hr
     split at hr
     ·exact hr
     ·cases hr
    obtain ⟨q1,q2⟩:=yY hM hA hk hL (us:=fun i=>us (i+1)) (fun i hi=>h (i+1) (by simpa using hi)) h2 Ef
    refine ⟨by simp [q1],fun i hi => ?_⟩
    cases i with
    | zero=>exact aBj hM hA hk hL (h 0 (by simp)) h1 Gg
    | succ i=>exact q2 i (by simpa using hi)
   ·cases hx
  ·cases hx

theorem tI{C2:Cx}{M2 m:Mem}{Ck:Cx}{base k:Nat}{A:Prop}(hM:aP P Ck m w')
  (hA:A→(∀ b,Ck.F b→C2.F b)∧∀ (id:Nat) (o:AO) (b:Nat),m[id]? = some (some o)→o.live=true→Ck.ι id=some b→C2.F b)
  (hk:∀ u,Rep C' M1 w' (.own k) u→Rep C2 M2 w' (.own base) u) (hL:Le C' Ck M1 m w' w') {x y:AV} {u:Value} (h:Rep C' M1 w' x u) (hx:bKs m base k x=some y) (hr:A∨bBx y=true):Rep C2 M2 w' y u:=by
 unfold bKs at hx
 split at hx
 ·rename_i l
  split at hx
  ·rename_i ys hy
   cases hx;cases h with
   | tup _ vs h1 h2 =>
    obtain ⟨q1,q2⟩:=yY hM hA hk hL (us:=fun i=>vs.getD i undef) h2 hy hr
    exact .tup _ _ (by omega) q2
  ·cases hx
 ·rename_i hn
  refine aBj hM hA hk hL h hx (hr.imp id fun hr => ?_)
  unfold bBx at hr
  split at hr
  ·exfalso
   unfold bBv at hx
   split at hx
   ·split at hx
    ·cases hx
    ·exact aNc hx
   ·exact aNc hx
  ·exact hr

theorem xG{f:Nat}{args A2:List AV}{r y:AV}{L:Upd}{base:Nat}(hm:iJ args=true∧A2=args∨mP M args=some A2∧bBx y=true∧aMz L=true)(hb:fO M base=true)
  (ho:aMy M1 base r=some (y,L)) (h:FMM P f A2 [] r M1):FM P f args M y L:=by
 intro C w us hus hM n;obtain ⟨G,hG,hGs,hA,Og⟩:∃ G:Nat→Prop,(∀ b,C.F b→G b)∧(∀ b,G b→b<w.heap.size)∧((∀ b,G b→C.F b)∨bBx y=true∧aMz L=true)∧cH (C.bare G) [] w A2 us:=by
  rcases hm with ⟨hn,rfl⟩ | ⟨hv,Gg,Ef⟩
  ·refine ⟨C.F,fun _ h=>h,hM.Fs,.inl fun _ h=>h,?_⟩
   have:∀ {l:List AV} {us:List Value},iJ l=true→cH C M w l us→cH (C.bare C.F) [] w l us:=by
    intro l
    induction l with
    | nil=>intro us _ h;cases h;exact .nil
    | cons x l ih =>
     intro us hn h;cases h with
     | cons _ u _ k hx hr =>
      have h0:=nU hn 0 (by simp)
      unfold iJ at hn
      split at hn
      ·exact .cons _ _ _ _ (hx.noRef h0 (fun _ h=>h) (fun _ _=>rfl)) (ih hn hr)
      ·cases hn
   exact this hn hus
  ·refine ⟨fun b=>C.F b∨∃ (id:Nat) (o:AO),M[id]? = some (some o)∧o.live=true∧C.ι id=some b,fun _ h => .inl h,fun b h => ?_,.inr ⟨Gg,Ef⟩,?_⟩
   ·rcases h with h | ⟨id,o,h1,h2,h3⟩
    ·exact hM.Fs b h
    ·exact hM.lt id o b h1 h2 h3
   ·obtain ⟨q1,q2⟩:=kR (G:=fun b=>C.F b∨∃ (id:Nat) (o:AO),M[id]? = some (some o)∧o.live=true∧C.ι id=some b) hM (fun _ h => .inl h) (fun id o b h1 h2 h3 => .inr ⟨id,o,h1,h2,h3⟩) (us:=fun i=>us.getD i undef) (fun i hi=>hus.at i hi) hv
    have:=cH.ofArr (l:=A2) (us:=us.toArray) (by simp [hus.len,q1]) (fun i hi=>by rw [bU];exact q2 i hi)
    exact this
 have B4:aP P (C.bare G) [] w:=⟨fun _ _ _ _ h=>by simp at h,fun _ _ _ h=>by simp at h,fun _ _ _ h=>by simp at h,fun _ _ _ _ _ h=>by simp at h,fun _ _ _ h=>by simp at h,hGs,fun _ _ _ h=>by simp at h⟩
 refine (h (C.bare G) w us Og B4 n).mono ?_;rintro e w' ⟨u,rfl,C',hF,Bz,hr⟩;refine ⟨u,rfl,?_⟩;have hkeep:∀ b,b<w.heap.size→w'.heap[b]? = w.heap[b]? := fun b hb=>hF.keep b hb (fun id o h=>by simp at h)
 have hnew:∀ (id:Nat) (o:AO) (b:Nat),M1[id]? = some (some o)→o.live=true→C'.ι id=some b→w.heap.size≤b:=fun id o b h1 h2 h3=>by
  rcases hF.new id o b h1 h2 h3 with h4 | ⟨_,_,h4,_⟩
  ·exact h4
  ·simp at h4
 have Fw:∀ b,C'.F b→G b∨w.heap.size≤b:=fun b hb=>by
  rcases hF.F2 b hb with h4 | h4 | ⟨_,_,h4,_⟩
  ·exact .inl h4
  ·exact .inr h4
  ·simp at h4
 have hfree:=cG hb;unfold aMy at ho
 split at ho
 ·rename_i k hk
  split at ho
  ·rename_i q hq
   split at ho
   ·rename_i y' hy
    cases ho;have hok:=cQ hq;have hmk:=oB Bz (id:=k) false hok rfl;have hlk:=Bz.le (cN (C:=C') (w:=w') (id:=k) false hok rfl);obtain ⟨f1,m1⟩:=uX (C:=C) (M:=M) (w:=w) (w':=w') (kb:=C'.ι k) hM hF.os hF.tape hF.out hF.size hkeep;have hAA:(∀ b,G b→C.F b)→(∀ b,(C'.close k false).F b→(C.after w w' (C'.ι k)).F b)∧∀ (id:Nat) (o:AO) (b:Nat),(upds M1 [(k,.dead)])[id]? = some (some o)→o.live=true→(C'.close k false).ι id=some b→(C.after w w' (C'.ι k)).F b:=by
     intro hGC;refine ⟨fun b hb => ?_,fun id o b h1 h2 h3 => ?_⟩
     ·have Al:C'.F b:=by rcases hb with hb | ⟨hb,_⟩;exact hb;cases hb
      rcases Fw b Al with h4 | h4
      ·exact .inl (hGC b h4)
      ·exact .inr ⟨h4,Bz.Fs b Al,fun e=>Bz.nF _ _ _ hok rfl e Al⟩
     ·simp only [upds] at h1
      have hne:k≠id:=fun e=>by subst e;rw [aV] at h1;cases h1;cases h2
      have Im:=(aN M1 k id _ _ hne).1 h1;exact .inr ⟨hnew id o b Im h2 h3,Bz.lt id o b Im h2 h3,fun e=>hne (Bz.inj _ _ _ _ _ hok rfl Im h2 e h3)⟩
    cases hkb:C'.ι k with
    | none =>
     rw [hkb] at hAA f1 m1
     obtain ⟨hz,hcs⟩:q.2.1=0∧q.2.2=[]:=by
      rcases Bz.row _ _ _ _ hok with ⟨_,hz,hcs⟩ | ⟨b,_,_,hb,_⟩
      ·exact ⟨hz,hcs⟩
      ·rw [hkb] at hb;cases hb
     rw [hz,hcs];have m2:=vP (ty:=q.1) m1 hfree;have f2:=vO (ty:=q.1) (C:=C.after w w' none) (w:=w') hfree;have hle:=m1.le f2;refine ⟨_,f1.trans f2,m2,?_⟩;refine tI (C2:=(C.after w w' none).nil base) (M2:=upds M [(base,.row q.1 0 [])]) (A:=∀ b,G b→C.F b) hmk (fun h=>⟨fun b hb=>(hAA h).1 b hb,fun id o b h1 h2 h3=>(hAA h).2 id o b h1 h2 h3⟩) (fun v hv => ?_) hlk hr hy (hA.imp id (·.1))
     cases hv with
     | own _ _ h0 ha hrow =>
      rcases hrow _ _ _ hok with ⟨rfl,_,_⟩ | ⟨b,_,hb⟩
      ·exact .own base _ rfl ⟨_,aV ..⟩ (fun ty n cs h=>by simp only [upds] at h;rw [aV] at h;cases h;exact .inl ⟨rfl,by simp [Cx.nil],rfl⟩)
      ·rw [hkb] at hb;cases hb
    | some b =>
     rw [hkb] at hAA f1 m1
     rcases Bz.row _ _ _ _ hok with ⟨hn,_⟩ | ⟨b',arr,inf,Al,q1,q2,q3,q4,q5,q6,q7,q8⟩
     ·rw [hkb] at hn;cases hn
     rw [hkb] at Al;cases Al
     have hbn:=hnew k _ b hok rfl hkb;have hbl:=Bz.lt k _ b hok rfl hkb;have hcell:∀ j (h:j<q.2.2.length),bQ (C.after w w' (some b)).F w' q.2.2[j] (arr.getD j undef):=fun j hj=>by
      rcases hA with hGC | ⟨_,Ef⟩
      ·exact (q7 j hj).mono (fun b hb=>(hAA hGC).1 b (.inl hb)) (fun _ _=>rfl)
      ·simp only [aMz] at Ef
       split at Ef
       ·rename_i hcs
        exact (q7 j hj).rig (aBk hcs j hj)
       ·cases Ef
     obtain ⟨m2,Bo⟩:=bKt (base:=base) (b:=b) (k:=C'.κ k) (ty:=q.1) (n:=q.2.1) (cs:=q.2.2) m1 hfree (fun hF=>by
      rcases hF with hF | ⟨_,_,hF⟩
      ·have:=hM.Fs b hF;omega
      ·exact hF rfl) (fun i x j h1 h2 h3=>by have:=hM.lt i x j h1 h2 h3;omega) hbl ⟨arr,inf,q1,q2,q3,q4,q5,q6,hcell,q8⟩
     refine ⟨_,?_,m2,?_⟩
     ·have hne:∀ (i:Nat) (x:AO),M[i]? = some (some x)→i≠base:=fun i x h e=>hfree x (e ▸ h)
      refine ⟨f1.os,f1.tape,f1.out,f1.size,f1.keep,fun i x h=>⟨Bo.ids i x h,by simp [Cx.grow,Cx.after,hne i x h],by simp [Cx.grow,Cx.after,hne i x h]⟩,Bo.row,fun i x h o' h1 h2=>(Bo.liv i x h o' h1 h2).1,fun i x j h1 h2 h3 => ?_,f1.F1,f1.F2⟩
      by_cases e:i=base
      ·subst e
       simp only [Cx.grow,if_true] at h3
       cases h3;exact .inl hbn
      ·simp only [Cx.grow,e,if_false] at h3
       exact f1.new i x j ((aN M base i _ _ (fun e'=>e e'.symm)).1 h1) h2 h3
     ·refine tI (C2:=(C.after w w' (some b)).grow base b (C'.κ k)) (M2:=upds M [(base,.row q.1 q.2.1 q.2.2)]) (A:=∀ b,G b→C.F b) hmk (fun h=>⟨fun b hb=>(hAA h).1 b hb,fun id o b h1 h2 h3=>(hAA h).2 id o b h1 h2 h3⟩) (fun v hv => ?_) hlk hr hy (hA.imp id (·.1))
      cases hv with
      | own _ _ h0 ha hrow =>
       rcases hrow _ _ _ hok with ⟨_,hn,_⟩ | ⟨b',rfl,hb⟩
       ·rw [hkb] at hn;cases hn
       ·rw [hkb] at hb;cases hb
        exact .own base _ rfl ⟨_,aV ..⟩ (fun ty n cs h=>by simp only [upds] at h;rw [aV] at h;cases h;exact .inr ⟨b,by simp [Cx.grow],by simp [Cx.grow]⟩)
   ·cases ho
  ·cases ho
 ·rename_i hk
  split at ho
  ·rename_i y' hy
   cases ho;obtain ⟨f1,m1⟩:=uX (C:=C) (M:=M) (w:=w) (w':=w') (kb:=none) hM hF.os hF.tape hF.out hF.size hkeep;refine ⟨_,f1,m1,?_⟩;refine tI (C2:=C.after w w' none) (M2:=upds M []) (A:=∀ b,G b→C.F b) Bz (fun hGC=>⟨fun b hb => ?_,fun id o b h1 h2 h3 => .inr ⟨hnew id o b h1 h2 h3,Bz.lt id o b h1 h2 h3,nofun⟩⟩) (fun v hv => ?_) ⟨fun i o h=>⟨o,h⟩,fun _ _ _ _ _ cs h=>⟨cs,h⟩,fun _ o h o' h' hl=>by rw [h] at h';cases h';exact ⟨hl,rfl,rfl⟩,fun _ h=>h,fun _ _=>rfl⟩ hr hy (hA.imp id (·.1))
   ·rcases Fw b hb with h4 | h4
    ·exact .inl (hGC b h4)
    ·exact .inr ⟨h4,Bz.Fs b hb,nofun⟩
   ·cases hv with
    | own _ _ h0 ha hrow =>
     obtain ⟨o,ho⟩:=ha;rw [List.getElem?_eq_none (dJ _)] at ho
     cases ho
  ·cases ho
end
section
variable {P:Program} {T:TT} {E:Env} {C C':Cx} {M M1 M2:Mem} {w w':World}

end
section
variable {P:Program} {T:TT} {E:Env} {C C0:Cx} {M M0:Mem} {w w0:World}

def aE(P:Program)(k:Nat)(b:Code)(st:St)(e:Ex)(Aj:St):Prop:=∀ (C0:Cx) (M0:Mem) (w0:World) (a:Act) (w:World),M0.length≤k→Sim P C0 M0 w0 st a w→∀ (ro:Option Nat),lL ro b→∀ (n:Nat),LoopIn (Fen ro) n P b (fun e' a' w'=>e'=e.toExit∧Sim P C0 M0 w0 Aj a' w') a w

section
variable {k:Nat} {b:Code} {st st1 Aj:St} {e:Ex}
theorem aE.step(h:aB P k b st .normal st1)(hr:aE P k b st1 e Aj):aE P k b st e Aj:=fun C0 M0 w0 a w hk hs ro hro n=>LoopIn.step (wpIn_mono (h C0 M0 w0 a w hk hs ro hro n) fun e' a' w' hq=>by
 obtain ⟨rfl,Bh⟩:=hq;exact hr C0 M0 w0 a' w' hk Bh ro hro n)
theorem aE.exit(h:aB P k b st e Aj)(he:e ≠ .normal):aE P k b st e Aj:=fun C0 M0 w0 a w hk hs ro hro n=>LoopIn.step (wpIn_mono (h C0 M0 w0 a w hk hs ro hro n) fun e' a' w' hq=>by
 obtain ⟨rfl,Bh⟩:=hq;cases e with
 | normal=>exact absurd rfl he
 | ret=>exact ⟨rfl,Bh⟩
 | exit id=>exact ⟨rfl,Bh⟩)
theorem aE.code(h:aE P k b st e Aj):aB P k (.loop b) st e Aj:=fun C0 M0 w0 a w hk hs ro hro n=>LoopIn.wp (h C0 M0 w0 a w hk hs ro hro.loop n)
theorem aE.range{α β:Type}(S:Nat→β→St)(R:β→St)(f:β→α→β)(Inv:Nat→β→Prop)(he:e ≠ .normal)(l:List α){a0:β}(h0:Inv 0 a0)
  (hs:∀ (i:Nat) (x:α) (acc:β),l[i]? = some x→Inv i acc→Inv (i+1) (f acc x)∧aB P k b (S i acc) .normal (S (i+1) (f acc x)))
  (hx:∀ acc,Inv l.length acc→aB P k b (S l.length acc) e (R acc)):aE P k b (S 0 a0) e (R (l.foldl f a0)):=by
 have key:∀ (r:List α) (i:Nat) (acc:β),l.drop i=r→i≤l.length→Inv i acc→aE P k b (S i acc) e (R (r.foldl f acc)):=by
  intro r
  induction r with
  | nil =>
   intro i acc hd hi hI;have:i=l.length:=by have:=congrArg List.length hd;simp at this;omega
   subst this;exact .exit (hx _ hI) he
  | cons x r ih =>
   intro i acc hd hi hI;have hl:l[i]? = some x:=by
    have:=congrArg (·[0]?) hd
    simpa using this
   obtain ⟨h1,h2⟩:=hs i x acc hl hI;have hlt:i<l.length:=(Bg.1 hl).1;refine .step h2 (ih (i+1) _ ?_ (by omega) h1)
   have:=congrArg List.tail hd;simpa [List.tail_drop] using this
 exact key l 0 a0 (by simp) (Nat.zero_le _) h0

end

def FV(P:Program)(f:Nat)(args:List AV)(base:Nat)(y:AV)(L:Upd):Prop:=∃ r M1,FMM P f args [] r M1∧aMy M1 base r=some (y,L)

theorem FV.fc{f base:Nat}{args:List AV}{y:AV}{L:Upd}{bs:List (Nat × AO)}(h:FV P f args base y L)(hn:iJ args=true):FC P f args bs base y L:=fun M _ hb _=>by
 obtain ⟨r,M1,h1,h2⟩:=h;exact xG (.inl ⟨hn,rfl⟩) hb h2 h1

def aSa(m M:Mem):Prop:=∀ (id:Nat) (o:AO),bN m id=some o→bN M id=some o
section
variable {m:Mem}
theorem aJm(hs:aSa m M){id:Nat}{r:Nat × Nat × List PV}(h:eX m id=some r):eX M id=some r:=by
 have:=bI.2 (cQ h);unfold eX;rw [hs _ _ this]
theorem bBu(hs:aSa m M){x:AV}{y:PV}(h:Ee m x=some y):Ee M x=some y:=by
 unfold Ee at h ⊢
 split at h
 ·exact h
 ·exact h
 ·split at h
  ·rename_i hr
   rw [aJm hs hr];exact h
  ·cases h
 ·cases h
theorem aGx(hs:aSa m M):∀ {l:List AV} {ys:List PV},aCg m l=some ys→aCg M l=some ys
 | [],_,h=>h
 | x::r,ys,h=>by
  unfold aCg at h ⊢
  split at h
  ·rename_i h1
   split at h
   ·rename_i h2
    rw [bBu hs h1,aGx hs h2];exact h
   ·cases h
  ·cases h
mutual
theorem bKq(hs:aSa m M):∀ {x y:AV},view m x=some y→view M x=some y
 | .p x,y,h=>by simp only [view] at h ⊢;exact h
 | .kb b,y,h=>by simp only [view] at h ⊢;exact h
 | .any,y,h=>by simp only [view] at h ⊢;exact h
 | .yld l,y,h=>by simp only [view] at h ⊢;exact h
 | .rp cs o,y,h=>by simp only [view] at h ⊢;exact h
 | .own id,y,h=>by
  simp only [view] at h ⊢
  split at h
  ·rename_i hr
   rw [aJm hs hr];exact h
  ·cases h
 | .arr id off n,y,h=>by
  simp only [view] at h ⊢
  split at h
  ·rename_i hr
   rw [aJm hs hr];exact h
  ·cases h
 | .ptr id off,y,h=>by
  simp only [view] at h ⊢
  split at h
  ·rename_i hr
   rw [hs _ _ hr];exact h
  ·rename_i hr
   rw [hs _ _ hr]
   split at h
   ·rename_i hc
    simp only [aGx hs hc];exact h
   ·cases h
  ·cases h
 | .agg l,y,h=>by
  simp only [view] at h ⊢
  split at h
  ·rename_i hr
   rw [nT hs hr];exact h
  ·cases h
 | .fn f a b,y,h=>by
  simp only [view] at h ⊢
  split at h
  ·rename_i ha
   split at h
   ·rename_i hb
    rw [nT hs ha,nT hs hb];exact h
   ·cases h
  ·cases h
 | .tup l,y,h=>by simp [view] at h
 | .mp i,y,h=>by simp [view] at h
theorem nT(hs:aSa m M):∀ {l ys:List AV},mP m l=some ys→mP M l=some ys
 | [],_,h=>by simp only [mP] at h ⊢;exact h
 | x::r,ys,h=>by
  simp only [mP] at h ⊢
  split at h
  ·rename_i h1
   split at h
   ·rename_i h2
    rw [bKq hs h1,nT hs h2];exact h
   ·cases h
  ·cases h
end
end
theorem pV:∀ (bs:Upd) (m:Mem) (id:Nat) (o:AO),bN (upds m bs) id=some o→(id,o)∈bs∨bN m id=some o
 | [],_,_,_,h => .inr h
 | (i,x)::r,m,id,o,h=>by
  rcases pV r _ id o h with h1 | h1
  ·exact .inl (B3 _ h1)
  ·rw [cO] at h1
   split at h1
   ·rename_i e
    subst e;cases h1;exact .inl (gO ..)
   ·exact .inr h1
theorem FV.view{f base:Nat}{args A2:List AV}{y:AV}{L:Upd}{bs:List (Nat × AO)}(h:FV P f A2 base y L)(hv:mP (upds [] bs) args=some A2)(h1:bBx y=true)(h2:aMz L=true):FC P f args bs base y L:=fun M hb hf _=>by
 obtain ⟨r,M1,h3,h4⟩:=h;refine xG (.inr ⟨nT (fun id o ho => ?_) hv,h1,h2⟩) hf h4 h3
 rcases pV bs [] id o ho with h5 | h5
 ·exact hb _ h5
 ·simp [bN] at h5
end
section
noncomputable abbrev Tp:=Tryz.prog

inductive Tr (α:Type) where
 | nil
 | node (v:Option α) (l r:Tr α)
def Tr.get{α:Type}:Tr α→Nat→Option α
 | .nil,_=>none
 | .node v l r,k=>match Nat.beq k 0 with
  | true=>v
  | false=>match Nat.beq (Nat.mod k 2) 1 with
   | true=>l.get (Nat.div k 2)
   | false=>r.get (Nat.sub (Nat.div k 2) 1)
def Tr.all{α:Type}(f:Nat→Nat):Tr α→List (Nat × α)
 | .nil=>[]
 | .node v l r=>(match v with | some x=>[(f 0,x)] | none=>[])++l.all (fun k=>f (2*k+1))++r.all (fun k=>f (2*k+2))
theorem Tr.get_all{α:Type}:∀ (t:Tr α) (f:Nat→Nat) (k:Nat) (x:α),t.get k=some x→(f k,x)∈t.all f
 | .nil,_,_,_,h=>by cases h
 | .node v l r,f,k,x,h=>by
  unfold Tr.get at h
  unfold Tr.all
  split at h
  ·rename_i hb
   have hk:=Nat.eq_of_beq_eq_true hb;subst hk;subst h;exact gD _ (gD _ (gO ..))
  ·rename_i hb
   have hk:=Nat.ne_of_beq_eq_false hb
   split at h
   ·rename_i h1
    have h1:k % 2=1:=Nat.eq_of_beq_eq_true h1;have:=Tr.get_all l (fun k=>f (2*k+1)) _ x h
    refine gD _ (oE _ ?_);have e:2*(k / 2)+1=k:=by omega
    have e':2*Nat.div k 2+1=k:=e;simp only [e'] at this
    exact this
   ·rename_i h1
    have h1:k % 2≠1:=Nat.ne_of_beq_eq_false h1;have:=Tr.get_all r (fun k=>f (2*k+2)) _ x h
    refine oE _ ?_;have e:2*(k / 2-1)+2=k:=by omega
    have e':2*Nat.sub (Nat.div k 2) 1+2=k:=e;simp only [e'] at this
    exact this

abbrev tL(v:Option TI):Tr TI := .node v .nil .nil
abbrev D1:Option TI:=some ⟨.func,1,8,[.nilFunc],true⟩
abbrev Lv:Option TI:=some ⟨.int .i64,1,8,[.int .i64 0],true⟩
abbrev O0:Option TI:=some ⟨.int .u64,1,8,[.int .u64 0],true⟩
abbrev O1:Option TI:=some ⟨.struct [(0,3,true),(1,3,true)],2,16,[.int .i64 0,.int .i64 0],true⟩
abbrev Q7:Option TI:=some ⟨.struct [(0,3,true),(1,3,true),(2,3,true),(3,3,true)],4,32,[.int .i64 0,.int .i64 0,.int .i64 0,.int .i64 0],true⟩
def tTr:Tr TI := .node none (.node D1 (.node Lv (.node none (.node none (.node (some ⟨.slice 3,1,24,[.slice none 0 0],true⟩) (.node (some ⟨.struct [(0,3,true),(1,3,true),(2,3,true)],3,24,[.int .i64 0,.int .i64 0,.int .i64 0],true⟩) .nil (tL D1)) .nil) .nil) (.node (some ⟨.slice 80,1,24,[.slice none 0 0],true⟩) (.node none .nil (.node (some ⟨.struct [(0,101,true)],1,8,[.nilFunc],true⟩) (tL (some ⟨.map 3 24,1,8,[.map none],true⟩)) .nil)) (.node none .nil (.node (some ⟨.struct [(0,115,true),(1,116,true),(2,115,true),(3,117,true),(4,116,true)],5,40,.nilFunc::List.replicate 4 (.nilFunc),true⟩) (.node (some ⟨.map 3 4,1,8,[.map none],true⟩) (tL (some ⟨.ptr 3,1,8,[.pointer none],true⟩)) .nil) .nil)))) (.node none (.node none (.node none .nil (.node none (tL Q7) (tL D1))) (.node none .nil (.node D1 (.node none (tL O0) .nil) (tL (some ⟨.array 5 242,5,40,.nilFunc::List.replicate 4 (.nilFunc),true⟩))))) (.node none (.node (some ⟨.slice 54,1,24,[.slice none 0 0],true⟩) .nil (.node none (tL D1) .nil)) (.node none (.node none .nil (tL D1)) (tL (some ⟨.array 61 3,61,488,.int .i64 0::List.replicate 60 (.int .i64 0),true⟩)))))) (.node (some ⟨.int .u8,1,1,[.int .u8 0],true⟩) (.node (some ⟨.str,1,16,[.string { data := #[] }],true⟩) (.node none (.node none (.node O1 .nil (tL D1)) (.node none .nil (tL D1))) .nil) (.node none (.node none .nil (.node none (tL (some ⟨.struct [(0,26,true),(3,166,true),(4,167,true)],5,72,[.int .i64 0,.slice none 0 0,.slice none 0 0,.map none,.map none],true⟩)) .nil)) (.node none (.node D1 .nil (tL (some ⟨.map 3 31,1,8,[.map none],true⟩))) (.node none (tL D1) .nil)))) (.node none (.node none (.node none (.node none (tL O1) (tL D1)) (tL D1)) (.node none .nil (tL D1))) (.node none (.node none (.node none (.node none (tL D1) .nil) .nil) (tL D1)) (.node (some ⟨.slice 65,1,24,[.slice none 0 0],true⟩) .nil (.node (some ⟨.struct [(0,3,true),(1,123,true)],62,496,.int .i64 0::List.replicate 61 (.int .i64 0),true⟩) (tL D1) .nil)))))) (.node Lv (.node (some ⟨.bool,1,1,[.bool false],true⟩) (.node (some ⟨.struct [(0,2,true),(1,3,true),(2,4,true),(3,6,true)],4,24,[.int .i64 0,.int .i64 0,.bool false,.int .u8 0],true⟩) (.node none (.node (some ⟨.slice 31,1,24,[.slice none 0 0],true⟩) (.node none (tL D1) .nil) (.node (some ⟨.struct [(0,22,true),(1,3,true),(2,94,true)],3,40,[.slice none 0 0,.int .i64 0,.int .u32 0],true⟩) (.node none (tL O0) .nil) .nil)) (.node none (tL O1) .nil)) (.node (some ⟨.slice 84,1,24,[.slice none 0 0],true⟩) (tL (some ⟨.slice 63,1,24,[.slice none 0 0],true⟩)) (.node none (.node D1 (.node none (tL Lv) .nil) .nil) (.node none (tL D1) (tL D1))))) (.node none (.node none (.node Lv .nil (.node none .nil (tL D1))) (.node none (tL (some ⟨.struct [(0,3,true),(1,82,true),(2,3,true),(3,3,true),(4,3,true),(5,3,true)],6,48,.int .i64 0::List.replicate 5 (.int .i64 0),true⟩)) (tL D1))) (.node (some ⟨.ptr 96,1,8,[.pointer none],true⟩) (tL D1) .nil))) (.node (some ⟨.int .u8,1,1,[.int .u8 0],true⟩) (.node none (.node none (.node (some ⟨.struct [(0,3,true),(1,3,true),(2,3,true),(3,31,true),(4,32,true)],5,72,[.int .i64 0,.int .i64 0,.int .i64 0,.slice none 0 0,.slice none 0 0],true⟩) (.node none (tL (some ⟨.slice 133,1,24,[.slice none 0 0],true⟩)) (.node none (tL (some ⟨.ptr 307,1,8,[.pointer none],true⟩)) .nil)) (tL (some ⟨.struct [(0,34,true)],5,72,[.int .i64 0,.int .i64 0,.int .i64 0,.slice none 0 0,.slice none 0 0],true⟩))) (.node none (tL Lv) (.node none .nil (tL (some ⟨.struct [(0,30,true)],1,8,[.nilFunc],true⟩))))) (.node (some ⟨.struct [(0,3,true),(1,23,true),(2,24,true)],3,56,[.int .i64 0,.slice none 0 0,.slice none 0 0],true⟩) (.node none (.node none (.node none (tL O0) .nil) .nil) (.node (some ⟨.ptr 169,1,8,[.pointer none],true⟩) (tL D1) .nil)) .nil)) (.node none (.node (some ⟨.slice 5,1,24,[.slice none 0 0],true⟩) (.node none .nil (.node none (tL (some ⟨.map 3 84,1,8,[.map none],true⟩)) .nil)) (.node Q7 .nil (.node none (tL D1) .nil))) (.node D1 .nil (.node none (.node (some ⟨.int .u32,1,4,[.int .u32 0],true⟩) (tL (some ⟨.slice 163,1,24,[.slice none 0 0],true⟩)) .nil) (.node none (tL D1) .nil))))))
def tT:TT:=tTr.get

set_option maxRecDepth 100000 in
theorem bYk:(tTr.all id).map (fun p=>bX Tryz.prog p.1)=(tTr.all id).map fun p=>some p.2:=by kernel_rfl
theorem aZu:∀ t i,tT t=some i→bX Tryz.prog t=some i:=fun t i h=>by
 have h1:=Tr.get_all tTr id t i h;obtain ⟨j,hj,hx⟩:=List.getElem_of_mem h1;have h2:=congrArg (fun l=>l[j]?) bYk
 simp only [gF,An hj,hx,Option.map_some,id,Option.some.injEq] at h2
 exact h2

def okF(P:Program)(f:Nat):Bool:=match P.funcs[f]? with
 | some fn => !(fn.name == "runtime.NumGoroutine") && fn.body.isSome
 | none=>false
theorem bSd{P:Program}{f:Nat}(h:okF P f=true)(args:Array Value)(w:World):(callFunc f args).run P w = .ok (.enter f args) w:=by
 unfold okF at h
 split at h
 ·rename_i fn hf
  simp only [Bw,Bool.not_eq_true'] at h
  have hn : ¬ fn.name = "runtime.NumGoroutine" := by simpa using h.1
  have hb:¬ fn.body=none:=fun e=>by rw [e] at h;cases h.2
  unfold callFunc;simp [hf,hn,hb]
 ·cases h
def ok(f:Nat):Bool:=match Nat.ble 2 f with
 | true=>Nat.ble f 294
 | false=>false
set_option maxRecDepth 100000 in
theorem bYl:((List.range 295).drop 2).all (okF Tryz.prog)=true:=by kernel_rfl
theorem bYm:∀ f,ok f=true→∀ args w,(callFunc f args).run Tryz.prog w = .ok (.enter f args) w:=fun f h=>by
 unfold ok at h
 split at h
 ·rename_i h2
  have h2:=Nat.le_of_ble_eq_true h2;have h3:=Nat.le_of_ble_eq_true h;have:=bYl;rw [fL] at this
  refine bSd (this f ?_);rw [List.mem_iff_getElem];exact ⟨f-2,by simp;omega,by simp;omega⟩
 ·cases h
theorem mixed:Tryz.prog.follows .mixedOrders=true:=by kernel_rfl
end
section
variable {P:Program} {T:TT} {E:Env} {C C0:Cx} {M M0 M1:Mem} {w w0:World}

def bkI(ids:List Nat)(base j:Nat):Option Nat:=match ids[j]? with
 | some i=>some i
 | none=>match Nat.beq j ids.length with
  | true=>some base
  | false=>none
def nG(ids:List Nat)(base:Nat):List Nat→Mem→Option Upd
 | i::r,some o::m=>match mpO (bkI ids base) o with
  | some o'=>(nG ids base r m).map ((i,o') :: ·)
  | none=>none
 | [],[]=>some []
 | [],[some o]=>match mpO (bkI ids base) o with
  | some o'=>some [(base,o')]
  | none=>none
 | _,_=>none

theorem aIb{G8:List Nat}{base:Nat}:∀ {ids:List Nat} {m:Mem} {L:Upd},nG G8 base ids m=some L→ids.Nodup→base∉ids →
  (m.length=ids.length∨m.length=ids.length+1) ∧
  ∀ (N:Mem),(∀ (p i:Nat) (o':AO),ids[p]? = some i→(bN (upds N L) i=some o'↔∃ o,m[p]? = some (some o)∧mpO (bkI G8 base) o=some o')) ∧
   (m.length=ids.length+1→∀ (o':AO),(bN (upds N L) base=some o'↔∃ o,m[ids.length]? = some (some o)∧mpO (bkI G8 base) o=some o')) ∧
   (m.length=ids.length→bN (upds N L) base=bN N base) ∧
   ∀ j,j∉ids→j≠base→bN (upds N L) j=bN N j
 | [],[],L,h,_,_=>by
  unfold nG at h;cases h
  refine ⟨.inl rfl,fun N=>⟨fun p i o' hp=>by simp at hp,fun h=>by simp at h,fun _=>rfl,fun _ _ _=>rfl⟩⟩
 | [],[some o],L,h,_,_=>by
  unfold nG at h
  split at h
  ·rename_i o' ho
   cases h;refine ⟨.inr rfl,fun N=>⟨fun p i o' hp=>by simp at hp,fun _ o2 => ?_,fun h=>by simp at h,fun j _ hj => ?_⟩⟩
   ·simp only [upds]
    rw [cO,if_pos rfl];constructor
    ·intro h;cases h;exact ⟨o,rfl,ho⟩
    ·rintro ⟨o3,h3,h4⟩
     simp at h3;subst h3
     rw [ho] at h4;exact h4
   ·simp only [upds]
    rw [cO,if_neg (Ne.symm hj)]
  ·cases h
 | i::r,some o::m,L,h,hd,hb=>by
  unfold nG at h
  split at h
  ·rename_i o' ho
   simp only [kT] at h
   obtain ⟨L',Kg,rfl⟩:=h;obtain ⟨Hn,Gn⟩:=List.nodup_cons.1 hd;have Bl:base≠i:=fun e=>hb (by simp [e])
   have Ct:base∉r:=fun e=>hb (B3 _ e)
   obtain ⟨q1,q2⟩:=aIb (ids:=r) Kg Gn Ct;refine ⟨by simpa using q1,fun N => ?_⟩
   obtain ⟨r1,r2,r3,r4⟩:=q2 (aX N i (some o'));refine ⟨fun p j o2 hp => ?_,fun hl o2 => ?_,fun hl => ?_,fun j hj hne => ?_⟩
   ·cases p with
    | zero =>
     simp at hp;subst hp
     simp only [upds];rw [r4 i Hn (Ne.symm Bl),cO,if_pos rfl];constructor
     ·intro h;cases h;exact ⟨o,rfl,ho⟩
     ·rintro ⟨o3,h3,h4⟩
      simp at h3;subst h3
      rw [ho] at h4;exact h4
    | succ p =>
     simp only [upds];rw [List.getElem?_cons_succ] at hp
     rw [r1 p j o2 hp];rfl
   ·have:=r2 (by simpa using hl) o2
    simpa [upds] using this
   ·simp only [upds]
    rw [r3 (by simpa using hl),cO,if_neg (Ne.symm Bl)]
   ·simp only [upds]
    rw [r4 j (fun e=>hj (B3 _ e)) hne,cO,if_neg (fun e=>hj (by simp [e]))]
  ·cases h
 | [],none::_,L,h,_,_=>by unfold nG at h;cases h
 | [],some _::_::_,L,h,_,_=>by unfold nG at h;cases h
 | _::_,[],L,h,_,_=>by unfold nG at h;cases h
 | _::_,none::_,L,h,_,_=>by unfold nG at h;cases h

theorem aCz{G8:List Nat}{base:Nat}:∀ {ids:List Nat} {m:Mem} {L:Upd},nG G8 base ids m=some L→∀ (p:Nat) (o1:AO),m[p]? = some (some o1)→∃ o',mpO (bkI G8 base) o1=some o'
 | [],[],L,h,p,o1,hp=>by simp at hp
 | [],[some o],L,h,p,o1,hp=>by
  unfold nG at h
  split at h
  ·rename_i hx
   cases p with
   | zero=>simp at hp;subst hp;exact ⟨_,hx⟩
   | succ p=>simp at hp
  ·cases h
 | i::r,some o::m,L,h,p,o1,hp=>by
  unfold nG at h
  split at h
  ·rename_i hx
   simp only [kT] at h
   obtain ⟨L',Kg,_⟩:=h;cases p with
   | zero=>simp at hp;subst hp;exact ⟨_,hx⟩
   | succ p=>exact aCz Kg p o1 (by simpa using hp)
  ·cases h
 | [],none::_,L,h,_,_,_=>by unfold nG at h;cases h
 | [],some _::_::_,L,h,_,_,_=>by unfold nG at h;cases h
 | _::_,[],L,h,_,_,_=>by unfold nG at h;cases h
 | _::_,none::_,L,h,_,_,_=>by unfold nG at h;cases h

def Cx.back(C C1:Cx)(ids:List Nat)(base:Nat):Cx :=
 {ι:=fun j=>match idx ids j 0 with | some p=>C1.ι p | none=>if j=base then C1.ι ids.length else C.ι j
  κ:=fun j=>match idx ids j 0 with | some p=>C1.κ p | none=>if j=base then C1.κ ids.length else C.κ j
  F:=C1.F }
theorem pE:∀ {ids:List Nat},ids.Nodup→∀ {p i:Nat} (n:Nat),ids[p]? = some i→idx ids i n=some (n+p)
 | [],_,p,i,n,h=>by simp at h
 | a::r,hd,p,i,n,h=>by
  obtain ⟨h1,h2⟩:=List.nodup_cons.1 hd;unfold idx;cases p with
  | zero=>simp at h;subst h;simp
  | succ p =>
   rw [List.getElem?_cons_succ] at h
   have hne:a≠i:=fun e=>h1 (e ▸ Br h)
   have hb:Nat.beq a i=false:=by
    cases hq:Nat.beq a i with
    | false=>rfl
    | true=>exact absurd (Nat.eq_of_beq_eq_true hq) hne
   rw [hb];have:=pE h2 (n+1) h;simp only [this]
   congr 1;omega

theorem aKp{f:Nat→Option Nat}{C':Cx}{M':Mem}(hm:bCc f C C' M M'):∀ {l ys:List AV} {us:List Value},cH C M w l us→mpL f l=some ys→cH C' M' w ys us
 | [],ys,us,h,hr=>by cases h;simp only [mpL] at hr;cases hr;exact .nil
 | x::r,ys,us,h,hr=>by
  cases h with
  | cons _ u _ k hx hk =>
   simp only [mpL] at hr
   split at hr
   ·rename_i y hy
    simp only [kT] at hr
    obtain ⟨r',Fx,rfl⟩:=hr;exact .cons _ _ _ _ (rU hm hx hy) (aKp hm hk Fx)
   ·cases hr

theorem bSe{base:Nat}{ids:List Nat}{r y:AV}{L:Upd}{C1:Cx}{w':World}{u:Value}(hd:distinct 0 ids=true)(hb:fO M base=true)
  (hs:rnM 0 ids (ids.map (at? M))=some M0) (hlv:∀ i∈ids,dU M i=true) (hU:nG ids base ids M1=some L) (hy:mpA (bkI ids base) r=some y)
  (hM:aP P C M w) (hF:Fr (C.rn 0 ids) M0 w C1 M1 w') (Bz:aP P C1 M1 w') (hr:Rep C1 M1 w' r u):Fr C M w (C.back C1 ids base) (upds M L) w'∧aP P (C.back C1 ids base) (upds M L) w'∧Rep (C.back C1 ids base) (upds M L) w' y u:=by
 obtain ⟨_,hnd⟩:=gV hd;obtain ⟨B4,hmp,hsrc⟩:=pX (k:=0) hM hd hs;have hlen:M0.length=ids.length:=by have:=(aBo hs).1;simpa using this
 have hbn:base∉ids:=fun hm=>by
  obtain ⟨o,h1,_⟩:=cV (hlv _ hm);exact cG hb o h1
 obtain ⟨hl1,hup⟩:=aIb hU hnd hbn;obtain ⟨u1,u2,u3,u4⟩:=hup M;have hL:=B4.le hF;have srcp:∀ p i,ids[p]? = some i→mI 0 ids p=some i:=fun p i h=>by simp [mI,h]
 have rnp:∀ p i,ids[p]? = some i→rnI 0 ids i=some p:=fun p i h=>by
  have:=pE hnd 0 h;unfold rnI;rw [show Nat.blt i 0=false from rfl,this,gP]
 have Cr:∀ p i,ids[p]? = some i→∃ o o0,M[i]? = some (some o)∧o.live=true∧M0[p]? = some (some o0)∧o0.live=true∧(C.rn 0 ids).ι p=C.ι i∧(C.rn 0 ids).κ p=C.κ i:=fun p i hp=>by
  obtain ⟨o,h1,h2⟩:=cV (hlv i (Br hp));obtain ⟨o0,h3,h4⟩:=hmp.fw _ _ _ (rnp p i hp) h1;exact ⟨o,o0,h1,h2,h3,by rw [bM h4];exact h2,hmp.at_ _ _ (rnp p i hp)⟩
 have sh_of:∀ (p:Nat) (o0:AO),M0[p]? = some (some o0)→∃ i o,ids[p]? = some i∧M[i]? = some (some o)∧o.live=true∧o0.live=true∧(C.rn 0 ids).ι p=C.ι i:=fun p o0 hp=>by
  obtain ⟨hl,_⟩:=Bg.1 hp;have Jv:ids[p]? = some ids[p]:=An (by omega)
  obtain ⟨o,o1,h1,h2,h3,h4,h5,_⟩:=Cr p _ Jv;rw [hp] at h3;cases h3
  exact ⟨_,o,Jv,h1,h2,h4,h5⟩
 have apart:∀ (j:Nat) (o:AO) (b:Nat),j∉ids→M[j]? = some (some o)→o.live=true→C.ι j=some b→w'.heap[b]? = w.heap[b]? ∧ ¬ C1.F b∧∀ (p:Nat) (o1:AO),M1[p]? = some (some o1)→o1.live=true→C1.ι p≠some b:=fun j o b hj h1 h2 h3=>by
  have Bl:=hM.lt j o b h1 h2 h3;have Kh:∀ (p:Nat) (o0:AO),M0[p]? = some (some o0)→o0.live=true→(C.rn 0 ids).ι p≠some b:=fun p o0 hp _ he=>by
   obtain ⟨i,o2,q1,q2,q3,_,q4⟩:=sh_of p o0 hp;rw [q4] at he
   have:=hM.inj j i o o2 b h1 h2 q2 q3 h3 he;subst this;exact hj (Br q1)
  refine ⟨hF.keep b Bl Kh,fun hf => ?_,fun p o1 hp hl he => ?_⟩
  ·rcases hF.F2 b hf with q | q | ⟨p,o0,q1,q2,q3⟩
   ·exact hM.nF j o b h1 h2 h3 q
   ·omega
   ·exact Kh p o0 q1 q2 q3
  ·rcases hF.new p o1 b hp hl he with q | ⟨p0,o0,q1,q2,q3⟩
   ·omega
   ·exact Kh p0 o0 q1 q2 q3
 have ix:∀ j,(j∈ids→∃ p,idx ids j 0=some p∧ids[p]? = some j)∧(j∉ids→idx ids j 0=none):=fun j=>by
  refine ⟨fun hj => ?_,fun hj => ?_⟩
  ·obtain ⟨p,hp,he⟩:=List.mem_iff_getElem.1 hj
   have:ids[p]? = some j:=by rw [An hp,he]
   exact ⟨p,by simpa using pE hnd 0 this,this⟩
  ·cases h1:idx ids j 0 with
   | none=>rfl
   | some p =>
    obtain ⟨_,h2⟩:=uY _ _ _ _ h1;exact absurd (Br h2) hj
 have cls:∀ (j:Nat) (o':AO),(upds M L)[j]? = some (some o')→(∃ p o1,ids[p]? = some j∧M1[p]? = some (some o1)∧mpO (bkI ids base) o1=some o'∧(C.back C1 ids base).ι j=C1.ι p∧(C.back C1 ids base).κ j=C1.κ p) ∨
   (∃ o1,j=base∧j∉ids∧M1[ids.length]? = some (some o1)∧mpO (bkI ids base) o1=some o'∧(C.back C1 ids base).ι j=C1.ι ids.length∧(C.back C1 ids base).κ j=C1.κ ids.length) ∨
   (j∉ids∧j≠base∧M[j]? = some (some o')∧(C.back C1 ids base).ι j=C.ι j∧(C.back C1 ids base).κ j=C.κ j):=fun j o' hj=>by
  rw [← bI] at hj
  by_cases hm:j∈ids
  ·obtain ⟨p,Hp,Gj⟩:=(ix j).1 hm
   obtain ⟨o1,h1,h2⟩:=(u1 p j o' Gj).1 hj;exact .inl ⟨p,o1,Gj,h1,h2,by simp [Cx.back,Hp],by simp [Cx.back,Hp]⟩
  ·have hn:=(ix j).2 hm
   by_cases hjb:j=base
   ·subst hjb
    rcases hl1 with hl | hl
    ·rw [u3 hl] at hj
     have:=cG hb o';exact absurd (bI.1 hj) this
    ·obtain ⟨o1,h1,h2⟩:=(u2 hl o').1 hj
     exact .inr (.inl ⟨o1,rfl,hm,h1,h2,by simp [Cx.back,hn],by simp [Cx.back,hn]⟩)
   ·rw [u4 j hm hjb] at hj
    exact .inr (.inr ⟨hm,hjb,bI.1 hj,by simp [Cx.back,hn,hjb],by simp [Cx.back,hn,hjb]⟩)
 have Fw:Fr C M w (C.back C1 ids base) (upds M L) w':=by
  refine ⟨hF.os,hF.tape,hF.out,hF.size,fun b Bl hn => ?_,fun i o ho => ?_,fun i o ho ty n cs hx => ?_,fun i o ho o' hx hl => ?_,fun j o b hj hl hjb => ?_,fun b hb=>hF.F1 b hb,fun b hb => ?_⟩
  ·exact hF.keep b Bl fun p o0 hp hl he=>by
    obtain ⟨i,o2,q1,q2,q3,_,q4⟩:=sh_of p o0 hp;rw [q4] at he
    exact hn i o2 q2 q3 he
  ·by_cases hm:i∈ids
   ·obtain ⟨p,Hp,Gj⟩:=(ix i).1 hm
    obtain ⟨_,o0,_,_,h3,h4,h5,h6⟩:=Cr p i Gj;obtain ⟨⟨o1,q1⟩,q2,q3⟩:=hF.ids p o0 h3;refine ⟨?_,by simp only [Cx.back,Hp];rw [q2,h5],by simp only [Cx.back,Hp];rw [q3,h6]⟩
    have hq:∃ o',mpO (bkI ids base) o1=some o':=by
     exact aCz hU p o1 q1
    obtain ⟨o',hq⟩:=hq;exact ⟨o',bI.1 ((u1 p i o' Gj).2 ⟨o1,q1,hq⟩)⟩
   ·have hne:i≠base:=fun e=>by subst e;exact cG hb o ho
    refine ⟨⟨o,bI.1 (by rw [u4 i hm hne];exact bI.2 ho)⟩,by simp [Cx.back,(ix i).2 hm,hne],by simp [Cx.back,(ix i).2 hm,hne]⟩
  ·rcases cls i _ hx with ⟨p,o1,q1,q2,q3,_⟩ | ⟨o1,rfl,_⟩ | ⟨_,_,q3,_⟩
   ·rw [kM q3] at q2
    obtain ⟨o2,o0,h1,_,h3,_⟩:=Cr p i q1;obtain ⟨Be,h5⟩:=hF.row p o0 h3 _ _ _ q2;obtain ⟨o4,h6,h7⟩:=hmp.bk _ _ _ (rnp p i q1) h5;rw [kM h7] at h6
    exact ⟨Be,h6⟩
   ·exact absurd ho (cG hb o)
   ·exact ⟨cs,q3⟩
  ·rcases cls i _ hx with ⟨p,o1,q1,q2,q3,_⟩ | ⟨o1,rfl,_⟩ | ⟨_,_,q3,_⟩
   ·obtain ⟨o2,o0,h1,h2,h3,_⟩:=Cr p i q1
    rw [ho] at h1;cases h1
    exact h2
   ·exact absurd ho (cG hb o)
   ·rw [ho] at q3;cases q3;exact hl
  ·have fin:∀ (p:Nat) (o1:AO),M1[p]? = some (some o1)→o1.live=true→C1.ι p=some b→w.heap.size≤b∨∃ (Gm:Nat) (o0:AO),M[Gm]? = some (some o0)∧o0.live=true∧C.ι Gm=some b:=fun p o1 h1 h2 h3=>by
    rcases hF.new p o1 b h1 h2 h3 with q | ⟨p0,o0,q1,q2,q3⟩
    ·exact .inl q
    ·obtain ⟨i,o2,r1,r2,r3,_,r4⟩:=sh_of p0 o0 q1
     rw [r4] at q3
     exact .inr ⟨i,o2,r2,r3,q3⟩
   rcases cls j _ hj with ⟨p,o1,q1,q2,q3,q4,_⟩ | ⟨o1,rfl,_,q2,q3,q4,_⟩ | ⟨_,_,q3,q4,_⟩
   ·rw [q4] at hjb
    exact fin p o1 q2 (by rw [← bM q3];exact hl) hjb
   ·rw [q4] at hjb
    exact fin _ o1 q2 (by rw [← bM q3];exact hl) hjb
   ·rw [q4] at hjb
    exact .inr ⟨j,o,q3,hl,hjb⟩
  ·rcases hF.F2 b hb with q | q | ⟨p,o0,q1,q2,q3⟩
   ·exact .inl q
   ·exact .inr (.inl q)
   ·obtain ⟨i,o2,r1,r2,r3,_,r4⟩:=sh_of p o0 q1
    rw [r4] at q3
    exact .inr (.inr ⟨i,o2,r2,r3,q3⟩)
 have G0:=hM.le Fw;have hbk:bCc (bkI ids base) C1 (C.back C1 ids base) M1 (upds M L):=by
  have two:∀ i j,bkI ids base i=some j→(ids[i]? = some j)∨(i=ids.length∧j=base):=fun i j h=>by
   unfold bkI at h
   split at h
   ·rename_i hi;cases h;exact .inl hi
   ·split at h
    ·rename_i hq;cases h;exact .inr ⟨Nat.eq_of_beq_eq_true hq,rfl⟩
    ·cases h
  have big:∀ (o:AO),M1[ids.length]? = some (some o)→M1.length=ids.length+1:=fun o h=>by
   obtain ⟨hl,_⟩:=Bg.1 h;omega
  refine ⟨fun i j o' hij hj => ?_,fun i j o hij hi => ?_,fun i j hij => ?_,fun _ h=>h⟩
  ·rcases two i j hij with h1 | ⟨rfl,rfl⟩
   ·exact (u1 i j o' h1).1 (bI.2 hj)
   ·rcases hl1 with hl | hl
    ·have:=bI.2 hj
     rw [u3 hl] at this
     exact absurd (bI.1 this) (cG hb o')
    ·exact (u2 hl o').1 (bI.2 hj)
  ·have hq:∃ o',mpO (bkI ids base) o=some o':=by
    exact aCz hU i o hi
   obtain ⟨o',hq⟩:=hq
   rcases two i j hij with h1 | ⟨rfl,rfl⟩
   ·exact ⟨o',bI.1 ((u1 i j o' h1).2 ⟨o,hi,hq⟩),hq⟩
   ·exact ⟨o',bI.1 ((u2 (big o hi) o').2 ⟨o,hi,hq⟩),hq⟩
  ·rcases two i j hij with h1 | ⟨rfl,rfl⟩
   ·have:=pE hnd 0 h1
    rw [gP] at this
    simp [Cx.back,this]
   ·simp [Cx.back,(ix _).2 hbn]
 refine ⟨Fw,⟨fun j ty n cs h => ?_,fun j ty cs h => ?_,fun j es cl h => ?_,fun j j' o1 o2 b q1 l1 q2 l2 e1 e2 => ?_,fun j o b h hl hb => ?_,Bz.Fs,fun j o b h hl hb => ?_⟩,rU hbk hr hy⟩
 ·rcases cls j _ h with ⟨p,o1,q1,q2,q3,q4,q5⟩ | ⟨o1,rfl,_,q2,q3,q4,q5⟩ | ⟨q1,_,q3,q4,q5⟩
  ·rw [kM q3] at q2
   rw [q4,q5];exact Bz.row _ _ _ _ q2
  ·rw [kM q3] at q2
   rw [q4,q5];exact Bz.row _ _ _ _ q2
  ·rw [q4,q5]
   rcases hM.row _ _ _ _ q3 with q | ⟨b,arr,inf,p0,p1,p2,p3,p4,p5,p6,p7,p8⟩
   ·exact .inl q
   ·exact .inr ⟨b,arr,inf,p0,by rw [(apart j _ b q1 q3 rfl p0).1];exact p1,p2,p3,p4,p5,p6,fun i hi=>(p7 i hi).mono G0.F G0.fz,p8⟩
 ·rcases cls j _ h with ⟨p,o1,q1,q2,q3,q4,q5⟩ | ⟨o1,rfl,_,q2,q3,q4,q5⟩ | ⟨q1,_,q3,q4,q5⟩
  ·cases o1 with
   | box Cc l =>
    simp only [mpO,kT] at q3
    obtain ⟨l',De,e⟩:=q3;cases e;obtain ⟨b,arr,p0,p1,p2,p3,p4⟩:=Bz.box _ _ _ q2;obtain ⟨n1,n2⟩:=fF hbk (w:=w') (us:=fun j=>arr.getD j undef) p3 De
    exact ⟨b,arr,by rw [q4];exact p0,p1,by omega,n2,fun j hj=>p4 j (by omega)⟩
   | row=>simp [mpO] at q3
   | mp=>simp [mpO] at q3
   | pk=>simp [mpO] at q3
   | dead=>simp [mpO] at q3
  ·cases o1 with
   | box Cc l =>
    simp only [mpO,kT] at q3
    obtain ⟨l',De,e⟩:=q3;cases e;obtain ⟨b,arr,p0,p1,p2,p3,p4⟩:=Bz.box _ _ _ q2;obtain ⟨n1,n2⟩:=fF hbk (w:=w') (us:=fun j=>arr.getD j undef) p3 De
    exact ⟨b,arr,by rw [q4];exact p0,p1,by omega,n2,fun j hj=>p4 j (by omega)⟩
   | row=>simp [mpO] at q3
   | mp=>simp [mpO] at q3
   | pk=>simp [mpO] at q3
   | dead=>simp [mpO] at q3
  ·obtain ⟨b,arr,p0,p1,p2,p3,p4⟩:=hM.box _ _ _ q3
   exact ⟨b,arr,by rw [q4];exact p0,by rw [(apart j _ b q1 q3 rfl p0).1];exact p1,p2,fun i hi=>(p3 i hi).mono G0,p4⟩
 ·rcases cls j _ h with ⟨p,o1,q1,q2,q3,q4,q5⟩ | ⟨o1,rfl,_,q2,q3,q4,q5⟩ | ⟨q1,_,q3,q4,q5⟩
  ·cases o1 with
   | mp Bn B5 =>
    simp only [mpO,Option.some.injEq] at q3
    cases q3;obtain ⟨b,arr,p0,p1,p2,p3⟩:=Bz.mp _ _ _ q2;refine ⟨b,arr,by rw [q4];exact p0,p1,p2,fun j hj => ?_⟩
    obtain ⟨en,s1,s2,s3,s4⟩:=p3 j hj;exact ⟨en,s1,s2,s3,s4.mono hbk.F (fun _ _=>rfl)⟩
   | row=>simp [mpO] at q3
   | box=>simp [mpO] at q3
   | pk=>simp [mpO] at q3
   | dead=>simp [mpO] at q3
  ·cases o1 with
   | mp Bn B5 =>
    simp only [mpO,Option.some.injEq] at q3
    cases q3;obtain ⟨b,arr,p0,p1,p2,p3⟩:=Bz.mp _ _ _ q2;refine ⟨b,arr,by rw [q4];exact p0,p1,p2,fun j hj => ?_⟩
    obtain ⟨en,s1,s2,s3,s4⟩:=p3 j hj;exact ⟨en,s1,s2,s3,s4.mono hbk.F (fun _ _=>rfl)⟩
   | row=>simp [mpO] at q3
   | box=>simp [mpO] at q3
   | pk=>simp [mpO] at q3
   | dead=>simp [mpO] at q3
  ·obtain ⟨b,arr,p0,p1,p2,p3⟩:=hM.mp _ _ _ q3
   refine ⟨b,arr,by rw [q4];exact p0,by rw [(apart j _ b q1 q3 rfl p0).1];exact p1,p2,fun i hi => ?_⟩
   obtain ⟨en,s1,s2,s3,s4⟩:=p3 i hi;exact ⟨en,s1,s2,s3,s4.mono G0.F G0.fz⟩
 ·rcases cls j _ q1 with ⟨p,a1,r1,r2,r3,r4,_⟩ | ⟨a1,rfl,r1,r2,r3,r4,_⟩ | ⟨r1,rb,r3,r4,_⟩ <;> rcases cls j' _ q2 with ⟨p',a2,t1,t2,t3,t4,_⟩ | ⟨a2,rfl,t1,t2,t3,t4,_⟩ | ⟨t1,tb,t3,t4,_⟩
  all_goals try rfl
  all_goals (rw [r4] at e1;rw [t4] at e2)
  ·have:=Bz.inj p p' a1 a2 b r2 (by rw [← bM r3];exact l1) t2 (by rw [← bM t3];exact l2) e1 e2
   subst this;rw [r1] at t1;cases t1;rfl
  ·have:=Bz.inj p _ a1 a2 b r2 (by rw [← bM r3];exact l1) t2 (by rw [← bM t3];exact l2) e1 e2
   obtain ⟨hl,_⟩:=Bg.1 r1;omega
  ·exact absurd e1 ((apart j' o2 b t1 t3 l2 e2).2.2 p a1 r2 (by rw [← bM r3];exact l1))
  ·have:=Bz.inj _ p' a1 a2 b r2 (by rw [← bM r3];exact l1) t2 (by rw [← bM t3];exact l2) e1 e2
   obtain ⟨hl,_⟩:=Bg.1 t1;omega
  ·exact absurd e1 ((apart j' o2 b t1 t3 l2 e2).2.2 _ a1 r2 (by rw [← bM r3];exact l1))
  ·exact absurd e2 ((apart j o1 b r1 r3 l1 e1).2.2 p' a2 t2 (by rw [← bM t3];exact l2))
  ·exact absurd e2 ((apart j o1 b r1 r3 l1 e1).2.2 _ a2 t2 (by rw [← bM t3];exact l2))
  ·exact hM.inj j j' o1 o2 b r3 l1 t3 l2 e1 e2
 ·rcases cls j _ h with ⟨p,o1,q1,q2,q3,q4,q5⟩ | ⟨o1,rfl,_,q2,q3,q4,q5⟩ | ⟨q1,_,q3,q4,q5⟩
  ·rw [q4] at hb
   exact Bz.nF _ _ b q2 (by rw [← bM q3];exact hl) hb
  ·rw [q4] at hb
   exact Bz.nF _ _ b q2 (by rw [← bM q3];exact hl) hb
  ·rw [q4] at hb
   exact (apart j o b q1 q3 hl hb).2.1
 ·rcases cls j _ h with ⟨p,o1,q1,q2,q3,q4,q5⟩ | ⟨o1,rfl,_,q2,q3,q4,q5⟩ | ⟨q1,_,q3,q4,q5⟩
  ·rw [q4] at hb
   exact Bz.lt _ _ b q2 (by rw [← bM q3];exact hl) hb
  ·rw [q4] at hb
   exact Bz.lt _ _ b q2 (by rw [← bM q3];exact hl) hb
  ·rw [q4] at hb
   exact fK (hM.lt j o b q3 hl hb) hF.size

theorem aTy{f base:Nat}{ids:List Nat}{args Bd:List AV}{r y:AV}{L:Upd}(hd:distinct 0 ids=true)(hb:fO M base=true)
  (hs:rnM 0 ids (ids.map (at? M))=some M0) (hlv:∀ i∈ids,dU M i=true) (ha:rnL 0 ids args=some Bd) (hU:nG ids base ids M1=some L) (hy:mpA (bkI ids base) r=some y)
  (h:FMM P f Bd M0 r M1):FM P f args M y L:=by
 intro C w us hus hM n;obtain ⟨B4,hmp,_⟩:=pX (k:=0) hM hd hs;refine (h (C.rn 0 ids) w us (aKp hmp hus ha) B4 n).mono ?_;rintro e w' ⟨u,rfl,C1,hF,Bz,hr⟩;exact ⟨u,rfl,C.back C1 ids base,bSe hd hb hs hlv hU hy hM hF Bz hr⟩
def shown(ids:List Nat)(base:Nat)(args:List AV)(bs:Upd)(M1:Mem)(r:AV):Option (List AV × Mem × AV × Upd):=match distinct 0 ids && ids.all (dU (upds [] bs)) with
 | true=>match rnM 0 ids (ids.map (at? (upds [] bs))) with
  | some M0=>match rnL 0 ids args with
   | some Bd=>match nG ids base ids M1 with
    | some L=>match mpA (bkI ids base) r with
     | some y=>some (Bd,M0,y,L)
     | none=>none
    | none=>none
   | none=>none
  | none=>none
 | false=>none
theorem FMM.fc{f base:Nat}{ids:List Nat}{args Bd:List AV}{bs:Upd}{r y:AV}{L:Upd}(h:FMM P f Bd M0 r M1)(hs:shown ids base args bs M1 r=some (Bd,M0,y,L)):FC P f args bs base y L:=fun M hb hf _=>by
 unfold shown at hs
 have hsub:aSa (upds [] bs) M:=fun id o ho=>by
  rcases pV bs [] id o ho with h5 | h5
  ·exact hb _ h5
  ·simp [bN] at h5
 split at hs
 ·rename_i hd
  rw [Bw,fL] at hd
  have hlv:∀ i∈ids,∃ o,bN (upds [] bs) i=some o∧bN M i=some o∧o.live=true:=fun i hi=>by
   obtain ⟨o,h1,h2⟩:=cV (hd.2 i hi);exact ⟨o,bI.2 h1,hsub _ _ (bI.2 h1),h2⟩
  split at hs
  ·rename_i h1
   split at hs
   ·rename_i h2
    split at hs
    ·rename_i h3
     split at hs
     ·rename_i h4
      cases hs;have he:ids.map (at? M)=ids.map (at? (upds [] bs)):=xX fun i hi=>by
       obtain ⟨o,q1,q2,_⟩:=hlv i hi;unfold at?
       rw [q1,q2]
      refine aTy hd.1 hf (by rw [he];exact h1) (fun i hi => ?_) h2 h3 h4 h
      obtain ⟨o,_,q2,q3⟩:=hlv i hi;exact iI (bI.1 q2) q3
     ·cases hs
    ·cases hs
   ·cases hs
  ·cases hs
 ·cases hs

theorem aOv{id ty n:Nat}{cs:List PV}(hM:aP P C M w)(ho:M[id]? = some (some (.row ty n cs))):∀ {l:List AV} {us:List Value},cH C M w l us→cH (C.close id true) (aX M id (some .dead)) w (fzL id n cs l) us
 | [],us,h=>by cases h;simp only [fzL];exact .nil
 | x::r,us,h=>by
  cases h with
  | cons _ u _ k hx hr =>
   simp only [fzL];exact .cons _ _ _ _ (aHf hM ho hx) (aOv hM ho hr)
theorem FM.close1{f id ty n:Nat}{cs:List PV}{args:List AV}{y:AV}{L:Upd}(ho:bN M id=some (.row ty n cs))(h:FM P f (fzL id n cs args) (aX M id (some .dead)) y L):FM P f args M y ((id,.dead)::L):=fun C w us hus hM k=>by
 have ho:=bI.1 ho;have fk:=cN (C:=C) (w:=w) true ho rfl;refine (h _ w us (aOv hM ho hus) (oB hM true ho rfl) k).mono ?_;rintro e w' ⟨u,rfl,C',hF,Eb,hr⟩;exact ⟨u,rfl,C',fk.trans hF,Eb,hr⟩
def aDa(bs:Upd):List Nat→List AV→Option (List AV)
 | [],args=>match iJ args with
  | true=>some args
  | false=>none
 | id::r,args=>match bN (upds [] bs) id with
  | some (.row _ n cs)=>match r.all (fun j => !Nat.beq j id) with
   | true=>aDa bs r (fzL id n cs args)
   | false=>none
  | _=>none
def kills:List Nat→Upd→Upd
 | [],L=>L
 | id::r,L=>(id,.dead)::kills r L
theorem aIc{f base:Nat}{bs:Upd}{y:AV}{L:Upd}:∀ {ids:List Nat} {M:Mem} {args A2:List AV},aDa bs ids args=some A2→(∀ id∈ids,∀ o,bN (upds [] bs) id=some o→bN M id=some o)→fO M base=true→FV P f A2 base y L→FM P f args M y (kills ids L)
 | [],M,args,A2,hc,_,hf,h=>by
  unfold aDa at hc
  split at hc
  ·rename_i hn
   cases hc;obtain ⟨r,M1,h1,h2⟩:=h;exact xG (.inl ⟨hn,rfl⟩) hf h2 h1
  ·cases hc
 | id::r,M,args,A2,hc,hb,hf,h=>by
  unfold aDa at hc
  split at hc
  ·rename_i ty n cs ho
   split at hc
   ·rename_i hd
    have hoM:=hb id (gO ..) _ ho;refine FM.close1 hoM (aIc hc (fun j hj o hjo => ?_) ?_ h)
    ·have hne:j≠id:=fun e=>by
      have:=fL.1 hd j hj;subst e;simp at this
     rw [cO,if_neg (Ne.symm hne)];exact hb j (B3 _ hj) o hjo
    ·have hne:id≠base:=fun e=>by
      subst e;exact cG hf _ (bI.1 hoM)
     unfold fO at hf ⊢
     rw [cO,if_neg hne];exact hf
   ·cases hc
  ·cases hc
theorem FV.close{f base:Nat}{ids:List Nat}{args A2:List AV}{y:AV}{L bs:Upd}(h:FV P f A2 base y L)(hc:aDa bs ids args=some A2):FC P f args bs base y (kills ids L):=fun M hb hf _=>by
 refine aIc hc (fun id _ o ho => ?_) hf h
 rcases pV bs [] id o ho with h5 | h5
 ·exact hb _ h5
 ·simp [bN] at h5

def unA:AV→AV
 | .tup l => .tup (l.map un)
 | x=>un x
theorem bSf{x:AV}{u:Value}(h:Rep C M w x u):Rep C M w (unA x) u:=by
 cases h with
 | tup cs vs h1 h2 =>
  refine .tup _ _ (by simpa using h1) (fun i hi => ?_)
  simp only [lE];exact bLv (h2 i (by simpa using hi))
 | p x u h=>exact .p _ _ h
 | any u=>exact .any u
 | kb b=>exact bLv (.kb b)
 | yld l=>exact .yld l
 | own id u h0 ha h=>exact .own id u h0 ha h
 | arr id off n u h0 ha h=>exact .arr id off n u h0 ha h
 | ptr id off u h0 ha h hp=>exact .ptr id off u h0 ha h hp
 | mp id u h0 ha h=>exact .mp id u h0 ha h
 | pa id q u h0 ha h=>exact .pa id q u h0 ha h
 | rp cs off b o us h1 h2 h3=>exact .rp cs off b o us h1 h2 h3
 | agg cs vs h0 h1 h2=>exact .agg cs vs h0 h1 h2
 | fn f cs ds us vs h1 h2 h3 h4=>exact .fn f cs ds us vs h1 h2 h3 h4
theorem tK.un{f:Nat}{args:List AV}{M M1:Mem}{r:AV}(h:tK P f args M r M1):tK P f args M (unA r) M1:=fun C w us hus hM n=>by
 refine (h C w us hus hM n).mono ?_;rintro e w' ⟨u,rfl,C1,hF,Bz,hr,hP⟩;exact ⟨u,rfl,C1,hF,Bz,bSf hr,hP⟩

def bSg(k:Nat)(g:Gh)(x:Option ((AV × Mem) × AS)):Option (AV × Mem × List Prop × List OI):=match x with
 | some ((r,M1),s)=>match gh k g ⟨[unA r],M1⟩ with
  | some ⟨[r'],M'⟩=>some (r',M',s.obs,s.o)
  | _=>none
 | none=>none
theorem tK.gh{f k:Nat}{args:List AV}{M M1 M':Mem}{r r':AV}{g:Gh}(hk:M.length≤k)(h:tK P f args M r M1)(hg:KV.gh k g ⟨[r],M1⟩=some ⟨[r'],M'⟩):tK P f args M r' M':=fun C w us hus hM n=>by
 refine (h C w us hus hM n).mono ?_;rintro e w' ⟨u,rfl,C1,hF,Bz,hr,hP⟩;have hs:Sim P (C.with []) M w ⟨[r],M1⟩ { tmps := #[u],defers:=[] } w':=⟨C1,⟨rfl,fun i hi=>by
  obtain rfl:i=0:=by simpa using hi
  exact hr⟩,Bz,hF.based [],⟨[],rfl,.nil,fun D h=>by simp at h⟩,fun p hp=>(by cases hp),hP⟩
 obtain ⟨C2,hS,Ir,Fw,_,_,Sx⟩:=uZ hk hg hs;exact ⟨u,rfl,C2,Fw.unbased,Ir,hS.rep 0 (by simp),Sx⟩
end
section
/-- numbers, by runs -/
def rng:List (Nat × Nat)→List Nat
 | []=>[]
 | (a,n)::r=>List.range' a n++rng r

abbrev aA(n:Int):PV := .v (.int .i64 n)
abbrev blP(b:Bool):PV := .v (.bool b)
abbrev aC(l:List Int):PV := .sl l.length (l.map aA)
abbrev aR(l:Lqq):PV := .sl l.length (l.map aC)
abbrev cX:PV := .v (.slice none 0 0)

def EO:Env:=⟨fun _ _ _ _=>none,ok⟩
theorem aZt:nY Tp EO:=⟨fun _ _ _ _ _ _ h=>(by cases h),bYm⟩

def cd(f:Func):Code:=f.body.getD .skip
def sub:Code→List Nat→Code
 | c,[]=>c
 | .seq a b,i::r=>match i with | 0=>sub a r | _=>sub b r
 | .cond _ a b,i::r=>match i with | 0=>sub a r | _=>sub b r
 | .block _ b,_::r=>sub b r
 | .loop b,_::r=>sub b r
 | .scope b,_::r=>sub b r
 | .rangeFunc _ _ a b,i::r=>match i with | 0=>sub a r | _=>sub b r
 | _,_::_ => .skip
def look:List (Nat × AV)→Nat→AV
 | [],_ => .any
 | (i,x)::r,k=>match Nat.beq i k with
  | true=>x
  | false=>look r k
def frm(l:List (Nat × AV)):Nat→Nat→List AV
 | 0,_=>[]
 | n+1,k=>look l k::frm l n (k+1)
abbrev fr(n:Nat)(l:List (Nat × AV)):List AV:=frm l n 0

abbrev asg(o:List OI):AS:=⟨false,o,[]⟩
abbrev out(l:List Prop):AS:=⟨false,[],l⟩
theorem gn:bB (out []):=fun _ h=>by simp at h
theorem gc{p:Prop}{l:List Prop}(hp:p)(h:bB (out l)):bB (out (p::l)):=fun q hq=>by
 rcases eO.1 hq with rfl | hq
 ·exact hp
 ·exact h q hq

def bYj(base:Nat)(x:Option ((AV × Mem) × AS)):Option (AV × Upd × List Prop × List OI):=match x with
 | some ((r,M1),s)=>match aMy M1 base (unA r) with
  | some (y,L)=>some (y,L,s.obs,s.o)
  | none=>none
 | none=>none
theorem FV.fin{f base:Nat}{fn:Func}{args:List AV}{y:AV}{L:Upd}{o:List OI}{l:List Prop}(hf:Tryz.prog.funcs[f]? = some fn)(hb:fn.body.isSome=true)
  (h:bYj base (aSd Tp tT EO 0 fn (cd fn) args [] (asg o))=some (y,L,l,[])) (g:bB (out l)):FV Tp f args base y L:=by
 unfold bYj at h
 split at h
 ·rename_i r M1 s hr
  split at h
  ·rename_i y' L' ho
   simp only [Option.some.injEq,Prod.mk.injEq] at h
   obtain ⟨rfl,rfl,rfl,hs⟩:=h;refine ⟨unA r,M1,(tK.un (zC aZu aZt mixed hf ?_ hr (fun p hp=>g p hp))).fmm,ho⟩
   unfold cd;cases h1:fn.body with
   | none=>rw [h1] at hb;cases hb
   | some c=>rfl
  ·cases h
 ·cases h
def bDq(k:Nat)(g:Gh)(x:Option ((Ex × St) × AS)):Option (Ex × St × List Prop × List OI):=match x with
 | some ((e,st1),s)=>match gh k g st1 with
  | some Aj=>some (e,Aj,s.obs,s.o)
  | none=>none
 | none=>none
theorem aB.fin{k:Nat}{c:Code}{st Aj:St}{e:Ex}{g:Gh}{o:List OI}{l:List Prop}(h:bDq k g (aAe Tp tT EO k 0 c st (asg o))=some (e,Aj,l,[]))(gd:bB (out l)):aB Tp k c st e Aj:=by
 unfold bDq at h
 split at h
 ·rename_i e1 st1 s hr
  split at h
  ·rename_i st2 hg
   simp only [Option.some.injEq,Prod.mk.injEq] at h
   obtain ⟨rfl,rfl,rfl,hs⟩:=h;exact (aBn aZu aZt mixed c hr (fun p hp=>gd p hp)).post hg
  ·cases h
 ·cases h
theorem tK.fin{f k:Nat}{fn:Func}{args:List AV}{M M':Mem}{r:AV}{g:Gh}{o:List OI}{l:List Prop}(hk:M.length=k)(hf:Tryz.prog.funcs[f]? = some fn)(hb:fn.body.isSome=true)
  (h:bSg k g (aSd Tp tT EO 0 fn (cd fn) args M (asg o))=some (r,M',l,[])) (gd:bB (out l)):tK Tp f args M r M':=by
 unfold bSg at h
 split at h
 ·rename_i r1 M1 s hr
  split at h
  ·rename_i r2 M2 hg
   simp only [Option.some.injEq,Prod.mk.injEq] at h
   obtain ⟨rfl,rfl,rfl,hs⟩:=h;refine tK.gh (Nat.le_of_eq hk) (tK.un (zC aZu aZt mixed hf ?_ hr (fun p hp=>gd p hp))) hg
   unfold cd;cases h1:fn.body with
   | none=>rw [h1] at hb;cases hb
   | some c=>rfl
  ·cases h
 ·cases h
theorem FMM.fin{f k:Nat}{fn:Func}{args:List AV}{M M':Mem}{r:AV}{g:Gh}{o:List OI}{l:List Prop}(hk:M.length=k)(hf:Tryz.prog.funcs[f]? = some fn)(hb:fn.body.isSome=true)
  (h:bSg k g (aSd Tp tT EO 0 fn (cd fn) args M (asg o))=some (r,M',l,[])) (gd:bB (out l)):FMM Tp f args M r M':=(tK.fin hk hf hb h gd).fmm
theorem FV.frz{P:Program}{f base:Nat}{args:List AV}{y:AV}(h:FMM P f args [] y [])(ho:aMy [] base y=some (y,[])):FV P f args base y []:=⟨y,[],h,ho⟩
theorem aB.cast{P:Program}{k:Nat}{c:Code}{st st1 Aj:St}{e:Ex}(h:aB P k c st e st1)(he:st1=Aj):aB P k c st e Aj:=he ▸ h
def bZ(st:St)(l:List (Nat × AV)):St:=⟨l.foldl (fun t p=>t.set p.1 p.2) st.t,st.m⟩

theorem cF{x y:Int}(h:x=y):(x == y)=true:=by simpa using h
theorem bK{x y:Int}(h:x≠y):(x == y)=false:=by simpa using h
theorem gY{x y:Int}(h:x≠y):(x != y)=true:=by simpa using h
theorem cR{x y:Int}(h:x=y):(x != y)=false:=by simpa using h
theorem bD{x y:Int}(h:x<y):decide (x<y)=true:=by simpa using h
theorem aQ{x y:Int}(h:y≤x):decide (x<y)=false:=by simpa using h
theorem uD{x y:Int}(h:x≤y):decide (x≤y)=true:=by simpa using h
theorem jZ{x y:Int}(h:y<x):decide (x≤y)=false:=by simpa using h
theorem cA{b:Bool}(h:b=false):(!b)=true:=by simpa using h
theorem aH{b:Bool}(h:b=true):(!b)=false:=by simpa using h

theorem cE{α:Type}{g:α→PV}{l:List α}{i:Nat}{x:α}(h:l[i]? = some x):(l.map g)[i*1]? = some (g x):=by rw [Nat.mul_one,gF,h];rfl
theorem gQ{α:Type}{g:α→PV}{l:List α}{i:Int}{x:α}(h0:0≤i)(h:l[i.toNat]? = some x):0≤i∧i<(l.length:Int)∧i.toNat*1<(l.map g).length:=by
 obtain ⟨h1,_⟩:=Bg.1 h;refine ⟨h0,by omega,by simpa using h1⟩
theorem aZ{α:Type}{l:List α}{i:Int}{x:α}(h0:0≤i)(h:l[i.toNat]? = some x):0≤i∧i<(l.length:Int):=by
 obtain ⟨h1,_⟩:=Bg.1 h;exact ⟨h0,by omega⟩
theorem fk{P:Program}{f:Nat}{args:List AV}{y:AV}{L:Upd}(base:Nat)(h:FV P f args base y L)(hn:iJ args=true):FC P f args [] base y L:=h.fc hn
theorem fv{P:Program}{f base:Nat}{args A2:List AV}{y:AV}{L:Upd}{bs:List (Nat × AO)}(h:FV P f A2 base y L)(hv:mP (upds [] bs) args=some A2:=by kernel_rfl)(h1:bBx y=true:=by kernel_rfl)(h2:aMz L=true:=by kernel_rfl):FC P f args bs base y L:=h.view hv h1 h2
theorem ixn{α:Type}{l:List α}{i:Nat}{x:α}(g:α→PV)(h:l[i]? = some x):0≤(i:Int)∧(i:Int)<(l.length:Int)∧(i:Int).toNat*1<(l.map g).length:=gQ (jA _) (by rwa [aTw])
theorem atm{α:Type}{l:List α}{i:Nat}{x:α}(g:α→PV)(h:l[i]? = some x):(l.map g)[i*1]? = some (g x):=cE h
abbrev bF:OI := .b false
abbrev bT:OI := .b true
abbrev pI (n:Int):AV:=.p (aA n)
abbrev pB (b:Bool):AV:=.p (blP b)
abbrev fS (l:Lqq):PV:=.sl l.length (l.flatten.map aA)
theorem Ap {p:Prop}{l:List Prop}(hp:p)(h:bB (out l)):bB (out (p::p::l)):=gc hp (gc hp (h))
theorem Aq {p:Prop}{l:List Prop}(hp:p)(h:bB (out l)):bB (out (p::p::p::l)):=gc hp (gc hp (gc hp (h)))
theorem Bf {p:Prop}{l:List Prop}(hp:p)(h:bB (out l)):bB (out (p::p::p::p::l)):=gc hp (gc hp (gc hp (gc hp (h))))
theorem B7 {p:Prop}{l:List Prop}(hp:p)(h:bB (out l)):bB (out (p::p::p::p::p::l)):=gc hp (gc hp (gc hp (gc hp (gc hp (h)))))
theorem Ho {p:Prop}{l:List Prop}(hp:p)(h:bB (out l)):bB (out (p::p::p::p::p::p::l)):=gc hp (gc hp (gc hp (gc hp (gc hp (gc hp (h))))))
theorem Ea {p:Prop}{l:List Prop}(hp:p)(h:bB (out l)):bB (out (p::p::p::p::p::p::p::l)):=gc hp (gc hp (gc hp (gc hp (gc hp (gc hp (gc hp (h)))))))
theorem Fy {p:Prop}{l:List Prop}(hp:p)(h:bB (out l)):bB (out (p::p::p::p::p::p::p::p::l)):=gc hp (gc hp (gc hp (gc hp (gc hp (gc hp (gc hp (gc hp (h))))))))
theorem gt (p:Prop){l:List Prop}(hp:p)(h:bB (out l)):bB (out (p::l)):=gc hp h
theorem gr (v:PV){l:List Prop}(h:bB (out l)):bB (out ((some v=some v)::l)):=gc rfl h
theorem gf{l:List Prop}(h:bB (out l)):bB (out ((false=false)::l)):=gc rfl h
def FC.o{P:Program}{f:Nat}{args:List AV}{bs:List (Nat × AO)}{base:Nat}{y:AV}{L:Upd}(_:FC P f args bs base y L):OI:=.c y L
def aE.k{P:Program}{k:Nat}{c:Code}{st Aj:St}{e:Ex}(_:aE P k c st e Aj)(n:Nat)(g:Gh):OI:=.k n g e Aj
def aB.k{P:Program}{k:Nat}{c:Code}{st Aj:St}{e:Ex}(_:aB P k c st e Aj)(n:Nat)(g:Gh):OI:=.k n g e Aj
def qI(ids:List Nat)(base:Nat)(x:AV):AV:=(mpA (bkI ids base) x).getD .any
def qM(f:Nat→Option Nat):List Nat→Mem→Upd
 | i::r,some o::M=>match mpO f o with
  | some q=>(i,q)::qM f r M
  | none=>[]
 | i::r,none::M=>qM f r M
 | _,_=>[]
def qS(ids:List Nat)(f:Nat→Option Nat)(args:List AV)(M:Mem):Upd:=blocks (upds [] (qM f ids M)) (clos (upds [] (qM f ids M)) (tU args))
theorem mq(ids:List Nat)(base:Nat){P:Program}{f:Nat}{Bd:List AV}{M0 M1:Mem}{r:AV}(h:FMM P f Bd M0 r M1)(hs:shown ids base (Bd.map (qI ids base)) (qS ids (bkI ids base) (Bd.map (qI ids base)) M0) M1 r=some (Bd,M0,qI ids base r,(nG ids base ids M1).getD []):=by kernel_rfl):FC P f (Bd.map (qI ids base)) (qS ids (bkI ids base) (Bd.map (qI ids base)) M0) base (qI ids base r) ((nG ids base ids M1).getD []):=FMM.fc h hs
theorem FV.fi{f base:Nat}{fn:Func}{args:List AV}{y:AV}{L:Upd}{l:List Prop}(hf:Tryz.prog.funcs[f]? = some fn)(o:List OI)(g:bB (out l))(h:bYj base (aSd Tryz.prog tT EO 0 fn (cd fn) args [] (asg o))=some (y,L,l,[]):=by kernel_rfl)(hb:fn.body.isSome=true:=by kernel_rfl):FV Tryz.prog f args base y L:=FV.fin hf hb h g
theorem aB.fi{k:Nat}{c:Code}{st Aj:St}{e:Ex}(g:Gh)(o:List OI){l:List Prop}(gd:bB (out l))(h:bDq k g (aAe Tryz.prog tT EO k 0 c st (asg o))=some (e,Aj,l,[]):=by kernel_rfl):aB Tryz.prog k c st e Aj:=aB.fin h gd
theorem FMM.fi(k:Nat)(g:Gh){f:Nat}{fn:Func}{args:List AV}{M M':Mem}{r:AV}{l:List Prop}(hf:Tryz.prog.funcs[f]? = some fn)(o:List OI)(gd:bB (out l))(h:bSg k g (aSd Tryz.prog tT EO 0 fn (cd fn) args M (asg o))=some (r,M',l,[]):=by kernel_rfl)(hb:fn.body.isSome=true:=by kernel_rfl)(hk:M.length=k:=by kernel_rfl):FMM Tryz.prog f args M r M':=FMM.fin hk hf hb h gd
theorem g0{a b:Int}(h:a<b):bB (out [(decide (a<b))=true]):=gc (bD h) gn
def Nu:List Nat→List Nat
 | a::n::r=>List.range' a n++Nu r
 | _=>[]
abbrev gE:Gh:=⟨[],[],[],[]⟩
abbrev gZ(l:List Nat):Gh:=⟨Nu l,[],[],[]⟩
abbrev gI(l i:List Nat):Gh:=⟨Nu l,i,[],[]⟩
abbrev gN(l i:List Nat)(n:List (Nat × Nat)):Gh:=⟨Nu l,i,[],n⟩
abbrev rF(n:Nat):List OI:=List.replicate n (.b false)
abbrev rT(n:Nat):List OI:=List.replicate n (.b true)
abbrev pS(c:Code)(n:Nat)(l:List Nat):Code:=sub c (List.replicate n 1++l)
end
section
section
variable {P:Program} {k:Nat} {b:Code} {α:Type}
theorem aE.find(S:Nat→St)(R1:Nat→α→St)(R2:St)(e1 e2:Ex)(h1:e1 ≠ .normal)(h2:e2 ≠ .normal)(p:α→Bool)(l:List α)
  (hs:∀ (i:Nat) (x:α),l[i]? = some x→p x=false→aB P k b (S i) .normal (S (i+1)))
  (hq:∀ (i:Nat) (x:α),l[i]? = some x→p x=true→aB P k b (S i) e1 (R1 i x))
  (hx:aB P k b (S l.length) e2 R2) :
  (∃ i x,l[i]? = some x∧l.findIdx? p=some i∧p x=true∧aE P k b (S 0) e1 (R1 i x))∨(l.findIdx? p=none∧l.any p=false∧aE P k b (S 0) e2 R2):=by
 have key:∀ (r:List α) (i:Nat),l.drop i=r→i≤l.length→(∃ j x,l[i+j]? = some x∧r.findIdx? p=some j∧p x=true∧aE P k b (S i) e1 (R1 (i+j) x))∨(r.findIdx? p=none∧r.any p=false∧aE P k b (S i) e2 R2):=by
  intro r
  induction r with
  | nil =>
   intro i hd hi;have:i=l.length:=by have:=congrArg List.length hd;simp at this;omega
   subst this;exact .inr ⟨rfl,rfl,.exit hx h2⟩
  | cons x r ih =>
   intro i hd hi;have hl:l[i]? = some x:=by
    have:=congrArg (·[0]?) hd
    simpa using this
   have hlt:i<l.length:=(Bg.1 hl).1;cases hp:p x with
   | true=>exact .inl ⟨0,x,by simpa using hl,by simp [List.findIdx?_cons,hp],hp,.exit (hq i x hl hp) h1⟩
   | false =>
    have Kf:l.drop (i+1)=r:=by
     have:=congrArg List.tail hd;simpa [List.tail_drop] using this
    rcases ih (i+1) Kf (by omega) with ⟨j,y,q1,q2,q3,q4⟩ | ⟨q1,q2,q3⟩
    ·refine .inl ⟨j+1,y,by rw [← q1];congr 1;omega,by simp [List.findIdx?_cons,hp,q2],q3,?_⟩
     rw [show i+(j+1)=i+1+j by omega]
     exact .step (hs i x hl hp) q4
    ·exact .inr ⟨by simp [List.findIdx?_cons,hp,q1],by simp [hp,q2],.step (hs i x hl hp) q3⟩
 rcases key l 0 (by simp) (Nat.zero_le _) with ⟨j,x,q1,q2,q3,q4⟩ | q
 ·exact .inl ⟨j,x,by simpa using q1,q2,q3,by simpa using q4⟩
 ·exact .inr q
end
theorem aE.times{P:Program}{k:Nat}{b:Code}{β:Type}{e:Ex}(S:Nat→β→St)(R:β→St)(f:β→Nat→β)(Inv:Nat→β→Prop)(he:e ≠ .normal)(n:Nat){a0:β}(h0:Inv 0 a0)
  (hs:∀ (i:Nat) (acc:β),i<n→Inv i acc→Inv (i+1) (f acc i)∧aB P k b (S i acc) .normal (S (i+1) (f acc i)))
  (hx:∀ acc,Inv n acc→aB P k b (S n acc) e (R acc)):aE P k b (S 0 a0) e (R ((List.range n).foldl f a0)):=by
 refine aE.range S R f Inv he (List.range n) h0 (fun i x acc hl hI => ?_) (fun acc hI => ?_)
 ·obtain ⟨h1,rfl⟩:=Bg.1 hl
  rw [List.getElem_range];exact hs i acc (by simpa using h1) hI
 ·rw [aGa] at hI ⊢
  exact hx acc hI
theorem pD{p:Nat→Bool}:∀ (l:List Nat) (a:List Int),l.foldl (fun acc s=>if p s then acc++[(s:Int)] else acc) a=a++(l.filter p).map fun (s:Nat)=>(s:Int)
 | [],a=>by simp
 | x::l,a=>by
  rw [qR,pD l]
  by_cases h:p x <;> simp [h]
theorem foldl_map{g:Nat→Int}:∀ (l:List Nat) (a:List Int),l.foldl (fun acc s=>acc++[g s]) a=a++l.map g
 | [],a=>by simp
 | x::l,a=>by
  rw [qR,foldl_map l];simp
def fC{α:Type}(p:α→Bool)(l:List α):Int:=match l.findIdx? p with
 | some i=>(i:Int)
 | none => -1
theorem dR{α:Type}{p:α→Bool}{l:List α}{i:Nat}(h:l.findIdx? p=some i):fC p l=(i:Int):=by unfold fC;rw [h]
theorem dV{α:Type}{p:α→Bool}{l:List α}(h:l.findIdx? p=none):fC p l = -1:=by unfold fC;rw [h]
theorem fD{α:Type}(p:α→Bool)(l:List α):decide (fC p l ≥ 0)=l.any p:=by
 unfold fC;cases h:l.findIdx? p with
 | none =>
  have:l.any p=false:=by simpa using h
  simp [this]
 | some i =>
  have:l.any p=true:=by
   have h2:(l.findIdx? p).isSome=true:=by rw [h];rfl
   rwa [List.findIdx?_isSome] at h2
  simp [this]
def uni(k:Nat)(L:Lqq):Prop:=∀ x∈L,x.length=k
theorem aCy{k:Nat}{x:List Int}{L:Lqq}(h:uni k (x::L)):uni k L:=fun y hy=>h y (B3 _ hy)
theorem aKo{k:Nat}:∀ {L:Lqq} (i:Nat),uni k L→(L.flatten).drop (i*k)=(L.drop i).flatten
 | [],i,_=>by simp
 | x::L,0,_=>by simp
 | x::L,i+1,h=>by
  have hx:=h x (by simp)
  rw [aAj,List.drop_succ_cons,← aKo i (aCy h),List.drop_append];rw [List.drop_eq_nil_of_le (by rw [hx,aKn];omega),List.nil_append]
  congr 1
  rw [hx,aKn];omega
theorem aZs{k:Nat}:∀ {L:Lqq} (i:Nat),uni k L→(L.flatten).take (i*k)=(L.take i).flatten
 | [],i,_=>by simp
 | x::L,0,_=>by simp
 | x::L,i+1,h=>by
  have hx:=h x (by simp)
  rw [aAj,List.take_succ_cons,aAj,← aZs i (aCy h),List.take_append];rw [List.take_of_length_le (by rw [hx,aKn];omega)]
  congr 2
  rw [hx,aKn];omega
theorem lF{k:Nat}:∀ {L:Lqq},uni k L→(L.flatten).length=L.length*k
 | [],_=>by simp
 | x::L,h=>by rw [aAj,kU,lF (aCy h),h x (by simp),oF,aKn];omega
theorem bXu{k i:Nat}{L:Lqq}{x:List Int}(h:uni k L)(hx:L[i]? = some x):((L.flatten).drop (i*k)).take k=x:=by
 have hl:x.length=k:=h x (Br hx);obtain ⟨hi,he⟩:=Bg.1 hx;rw [aKo i h,aFy hi,aAj,he,List.take_append_of_le_length (by omega),List.take_of_length_le (by omega)]
theorem cW{k i:Nat}{L:Lqq}{x:List Int}(h:uni k L)(hx:L[i]? = some x):i*k+k≤(L.flatten.map aA).length:=by
 obtain ⟨hi,_⟩:=Bg.1 hx;rw [Bt,lF h];have:(i+1)*k≤L.length*k:=Nat.mul_le_mul_right _ hi;rw [aKn] at this;exact this
theorem cD{k i:Nat}{L:Lqq}{x:List Int}(h:uni k L)(hx:L[i]? = some x):some (PV.agg (((L.flatten.map aA).drop (i*k)).take k))=some (.agg (x.map aA)):=by
 rw [← List.map_drop,← List.map_take,bXu h hx]
theorem dL{k i f:Nat}{L:Lqq}{x:List Int}{y:Int}(h:uni k L)(hx:L[i]? = some x)(hy:x[f]? = some y):(L.flatten.map aA)[i*k+f]? = some (aA y):=by
 have hl:x.length=k:=h x (Br hx);have hf:f<k:=by rw [← hl];exact (Bg.1 hy).1
 have:=congrArg (·[f]?) (bXu h hx)
 simp only [List.getElem?_take,hf,if_true,List.getElem?_drop] at this
 rw [gF,this,hy];rfl
theorem gX{k i:Nat}{L:Lqq}{x:List Int}(h:uni k L)(hi:i<L.length)(hx:x.length=k):((L.flatten.map aA).take (i*k)++x.map aA++(L.flatten.map aA).drop (i*k+k))=((L.set i x).flatten.map aA):=by
 have e:i*k+k=(i+1)*k:=by rw [aKn]
 rw [← List.map_take,← List.map_drop,← jJ,← jJ,aZs i h,e,aKo (i+1) h];rw [List.set_eq_take_append_cons_drop,if_pos hi,bDm,aAj,List.append_assoc]
theorem vY{k i:Nat}{L:Lqq}{x:List Int}(h:uni k L)(hx:x.length=k):uni k (L.set i x):=fun y hy=>by
 rcases List.mem_or_eq_of_mem_set hy with h1 | rfl
 ·exact h y h1
 ·exact hx
theorem len2{x:List Int}(h:x.length=2):∃ a b,x=[a,b]:=by
 match x,h with
 | [a,b],_=>exact ⟨a,b,rfl⟩
theorem Iw{x:List Int}(h:x.length=4):∃ a b c d,x=[a,b,c,d]:=by
 match x,h with
 | [a,b,c,d],_=>exact ⟨a,b,c,d,rfl⟩
theorem lQ{α:Type}{g:α→PV}{n:Nat}{cs:List PV}{l:List α}(h1:n=l.length)(h2:cs=l.map g):PV.sl n cs = .sl l.length (l.map g):=by subst h1;subst h2;rfl
theorem bMe{l:List PV}{i:Nat}{x:PV}(h:l[i]? = some x):(l++[])[i]? = some x:=by rw [List.append_nil];exact h
theorem bMf{k:Nat}{L:Lqq}{i:Int}{x:List Int}(hk:0<k)(hu:uni k L)(h0:0≤i)(h:L[i.toNat]? = some x):0≤i∧i<(L.length:Int)∧i.toNat*k<(L.flatten.map aA).length:=by
 have h1:=cW hu h;obtain ⟨h2,_⟩:=Bg.1 h;exact ⟨h0,by omega,by omega⟩
theorem aM{n:Nat}(h:n≤1000000):inR ((n:Nat):Int):=by unfold inR;omega
theorem aY{α:Type}{l:List α}{i:Nat}{x:α}(h:l[i]? = some x):i<l.length:=(Bg.1 h).1
abbrev small(n:Nat):Prop:=n<1000000
theorem gfl{k i:Nat}{L:Lqq}{x:List Int}{l:List Prop}(hu:uni k L)(h:L[i]? = some x)(g:bB (out l))(hk:0<k:=by decide):bB (out ((some (PV.agg (((L.flatten.map aA).drop (i*k)).take k))=some (.agg (x.map aA)))::(i*k+k≤(L.flatten.map aA).length)::(0≤(i:Int)∧(i:Int)<(L.length:Int)∧(i:Int).toNat*k<(L.flatten.map aA).length)::l)):=gc (cD hu h) (gc (cW hu h) (gc (bMf hk hu (jA _) (by rwa [aTw])) g))
theorem gfz{k:Nat}{z:Int}{L:Lqq}{x:List Int}{l:List Prop}(hu:uni k L)(h0:0≤z)(h:L[z.toNat]? = some x)(g:bB (out l))(hk:0<k:=by decide):bB (out ((some (PV.agg (((L.flatten.map aA).drop (z.toNat*k)).take k))=some (.agg (x.map aA)))::(z.toNat*k+k≤(L.flatten.map aA).length)::(0≤z∧z<(L.length:Int)∧z.toNat*k<(L.flatten.map aA).length)::l)):=gc (cD hu h) (gc (cW hu h) (gc (bMf hk hu h0 h) g))
end
end KV
end Go.Proofs
section
namespace Go.Proofs
open Go.ChangeShapes Go.WideShapes Go.ChangeAt Go.RowKit
namespace KV
open Tryz
variable {P:Program} {W W':World}

def CxW(W:World):Cx:={ ι:=fun _=>none,κ:=fun _=>0,F:=fun b=>b<W.heap.size }
theorem cGf(W:World):aP P (CxW W) [] W:=⟨fun i ty n cs h=>by simp at h,fun i ty cs h=>by simp at h,fun i es cl h=>by simp at h,fun i i' o o' b h=>by simp at h,fun i o b h=>by simp at h,fun b h=>h,fun i o b h=>by simp at h⟩

theorem FV.law{f:Nat}{args:List AV}{us:List Value}(h:∀ base:Nat,FV P f args base (.p (blP true)) [])(hn:iJ args=true)(hus:cH (CxW W) [] W args us):Calls P f us.toArray W fun e W'=>e = .returned (.bool true)∧Below W.heap.size W W':=by
 have hc:=(h 0).fc (bs:=[]) hn [] (fun p hp=>by simp at hp) rfl
 refine (callsIn_wide (n:=0)).1 ((hc (fun j _=>by rw [gP];cases j <;> rfl) (CxW W) W us hus (cGf W) 0).mono ?_)
 rintro e w' ⟨u,rfl,C',hF,hM,hr⟩;cases hr with
 | p _ _ h =>
  cases h;exact ⟨rfl,hF.os,hF.tape,hF.out,hF.size,fun b hb=>hF.keep b hb fun id o ho=>by simp at ho⟩

section
variable {H:Type} {enc:TypeId × Value→H}
theorem sU(hl:laidOutB P=true)(hb:Below W.heap.size W W'):∀ {ts:List TypeId} {vs:List Value} {ds:List (DataW H)} {ps:List MemPlace},(ts.all fun t=>P.readableRec t && decide (t<P.types.size))=true→DataW.TrodAll enc P W 0 (fun _=>true) true ts vs ds ps→(∀ x∈ps,x.block<W.heap.size) →
  DataW.TrodAll enc P W' 0 (fun b=>decide (b<W.heap.size)) true ts vs ds ps
 | [],[],[],_,_,h,_=>h
 | t::ts,v::vs,d::ds,ps,hr,⟨p,q,h1,h2,e⟩,hlt=>by
  rw [List.all_cons,Bw,Bw,decide_eq_true_eq] at hr
  subst e;exact ⟨p,q,Below.trod hl hr.1.1 hr.1.2 h1 hb (fun x hx=>hlt x (gD _ hx)),sU hl hb hr.2 h2 (fun x hx=>hlt x (oE _ hx)),rfl⟩
 | [],_::_,_,_,_,h,_=>h.elim
 | _::_,[],_,_,_,h,_=>h.elim
 | [],[],_::_,_,_,h,_=>h.elim
 | _::_,_::_,[],_,_,h,_=>h.elim

theorem bBt{a:Addr}{v:Value}(h:W.cell? (a.add 0)=some v):a=⟨a.block,a.off,none⟩:=by
 obtain ⟨b,o,s⟩:=a;cases s with
 | none=>rfl
 | some x =>
  unfold World.cell? at h
  simp only [Addr.add,if_true] at h
  split at h <;> simp at h

theorem aGw{t e:TypeId}{k:IntKind}{v:Value}{d:DataW H}{ps:List MemPlace}{base:Nat}(ht:P.underlying t=some (.slice e))(he:P.underlying e=some (.int k))(hc:P.cellsOf e=1)(hok:Value.okWide P W .any base t v)
  (h:DataW.Trod enc P W 0 (fun _=>true) true t v d ps):∃ l:List Int,bQ (CxW W).F W (.sl l.length (l.map fun n => .v (.int k n))) v∧(∀ n∈l,(Lit.int k n).wf=true)∧l.length≤maxLen:=by
 obtain ⟨a0,len,cap,rfl⟩:=okWide_slice ht hok;obtain ⟨fuel,hf⟩:=h
 rcases open_ints ht he hc hf with ⟨hcs,hx⟩ | ⟨a,Sc,Il,zs,hcs,_,hl,hm,hz,hx,hcell,hwz⟩
 ·simp [Value.cells] at hcs
  obtain ⟨rfl,rfl,rfl⟩:=hcs;exact ⟨[],.sl 0 [] none 0 (fun _=>undef) (dJ _) (Nat.zero_le _) (fun i h=>by simp at h) (fun i h=>by simp at h) (fun i h=>by simp at h),fun n h=>by simp at h,Nat.zero_le _⟩
 ·simp [Value.cells] at hcs
  obtain ⟨rfl,rfl,rfl⟩:=hcs;simp only [if_true] at hz
  have hlen:(zs.take len).length=len:=by rw [kV];omega
  refine ⟨zs.take len,?_,fun n hn=>hwz n (List.mem_of_mem_take hn),by rw [hlen];omega⟩
  rw [hlen];refine .sl len _ (some a) cap (fun i => .int k (zs.getD i 0)) hl hm (fun i hi => ?_) (fun i hi => ?_) (fun i hi=>rfl)
  ·have Bs:i<len:=by rw [Bt,hlen] at hi;exact hi
   have q1:=bBt (hcell 0 (by omega))
   have q2:=hcell i (by omega)
   rw [q1,Addr.add_lit] at q2
   exact ⟨a.block,a.off,by rw [← q1],World.block_lt_of_cell? W ⟨a.block,a.off+i,none⟩ q2,q2⟩
  ·have Bs:i<len:=by rw [Bt,hlen] at hi;exact hi
   simp only [lE,List.getElem_take];have:zs.getD i 0=zs[i]'(by omega):=by rw [Bj,An (by omega)];rfl
   rw [this];exact .v _
end
end KV
end Go.Proofs
end
section
namespace Go.Proofs
open Go.ChangeShapes Go.WideShapes Go.ChangeAt Go.RowKit Go.Deep
namespace KV
open Tryz
section
variable {P:Program} {W W':World} {H:Type} {enc:TypeId × Value→H}
end
end KV
end Go.Proofs
end
namespace Go.Proofs
namespace KV
open Tryz
section
section
variable {l:Lqq} {j i:Nat} {xs:List Int} {v:Int}
end
end
end KV
end Go.Proofs
section
namespace Go.Proofs
open Go.RowKit
namespace KV
open Tryz
variable {P:Program} {C C0:Cx} {M M0:Mem} {w w0:World}

def oJ(w:World)(b:Nat):Prop:=∃ o:Obj,w.heap[b]? = some o∧o.isCells=true
theorem uH{b o:Nat}{v:Value}(h:w.cell? ⟨b,o,none⟩=some v):oJ w b:=cells_of_cell h
theorem gL{b ty:Nat}{arr:Array Value}{fr:Nat × Nat}(h:w.heap[b]? = some (.cells arr ty fr)):oJ w b:=⟨_,h,rfl⟩

mutual
def nmP:PV→Bool
 | .v _=>true
 | .sl _ cs=>wC cs
 | .agg cs=>wC cs
 | .mp _=>false
 | .rp cs _=>wC cs
def wC:List PV→Bool
 | []=>true
 | x::r=>nmP x && wC r
end
theorem sE:∀ {l:List PV},wC l=true→∀ (i:Nat) (h:i<l.length),nmP l[i]=true
 | [],_,i,h=>by simp at h
 | x::r,hl,i,h=>by
  rw [wC,Bw] at hl
  cases i with
  | zero=>exact hl.1
  | succ i=>exact sE hl.2 i (by simpa using h)
theorem aDm{α:Type}(g:α→PV)(h:∀ x,nmP (g x)=true):∀ l:List α,wC (l.map g)=true
 | []=>rfl
 | x::r=>by rw [iK,wC,h,aDm g h r];rfl
mutual
def nmA:AV→Bool
 | .p x=>nmP x
 | .rp cs _=>wC cs
 | .agg l=>nmL l
 | .tup l=>nmL l
 | .fn _ a b=>nmL a && nmL b
 | _=>true
def nmL:List AV→Bool
 | []=>true
 | x::r=>nmA x && nmL r
end
theorem yD:∀ {l:List AV},nmL l=true→∀ (i:Nat) (h:i<l.length),nmA l[i]=true
 | [],_,i,h=>by simp at h
 | x::r,hl,i,h=>by
  rw [nmL,Bw] at hl
  cases i with
  | zero=>exact hl.1
  | succ i=>exact yD hl.2 i (by simpa using h)
def nmM:Mem→Bool
 | []=>true
 | some (.row _ _ cs)::r=>wC cs && nmM r
 | some (.box _ l)::r=>nmL l && nmM r
 | _::r=>nmM r
theorem aUx:∀ {m:Mem},nmM m=true→(∀ (i ty n:Nat) (cs:List PV),m[i]? = some (some (.row ty n cs))→wC cs=true)∧∀ (i ty:Nat) (l:List AV),m[i]? = some (some (.box ty l))→nmL l=true
 | [],_=>⟨fun i ty n cs h=>by simp at h,fun i ty l h=>by simp at h⟩
 | x::r,hm=>by
  have hr:nmM r=true:=by
   cases x with
   | none=>exact hm
   | some o=>cases o <;> simp [nmM] at hm <;> first | exact hm.2 | exact hm
  obtain ⟨h1,h2⟩:=aUx hr;refine ⟨fun i ty n cs h => ?_,fun i ty l h => ?_⟩
  ·cases i with
   | zero=>simp at h;subst h;simp [nmM] at hm;exact hm.1
   | succ i=>exact h1 i ty n cs (by simpa using h)
  ·cases i with
   | zero=>simp at h;subst h;simp [nmM] at hm;exact hm.1
   | succ i=>exact h2 i ty l (by simpa using h)
theorem bQ.shrink{F F':Nat→Prop}{x:PV}{u:Value}(h:bQ F w x u)(hF:∀ b,F b→oJ w b→F' b)(hm:nmP x=true):bQ F' w x u:=by
 induction h with
 | v x=>exact .v x
 | sl n cs p cap us h1 h2 h3 _ h5 ih =>
  rw [nmP] at hm
  refine .sl n cs p cap us h1 h2 (fun i hi => ?_) (fun i hi=>ih i hi (sE hm i hi)) h5
  obtain ⟨b,o,hp,hb,hc⟩:=h3 i hi;exact ⟨b,o,hp,hF b hb (uH hc),hc⟩
 | agg cs vs h0 h1 _ ih =>
  rw [nmP] at hm
  exact .agg cs vs h0 h1 fun i hi=>ih i hi (sE hm i hi)
 | mp=>simp [nmP] at hm
 | rp cs off b o us h1 _ h3 ih =>
  rw [nmP] at hm
  exact .rp cs off b o us (fun i hi=>⟨hF b (h1 i hi).1 (uH (h1 i hi).2),(h1 i hi).2⟩) (fun i hi=>ih i hi (sE hm i hi)) h3
theorem Rep.shrink{F':Nat→Prop}{x:AV}{u:Value}(h:Rep C M w x u)(hF:∀ b,C.F b→oJ w b→F' b)(hm:nmA x=true):Rep ⟨C.ι,C.κ,F',[]⟩ M w x u:=by
 induction h with
 | p x u h=>exact .p x u (h.shrink hF (by simpa [nmA] using hm))
 | any u=>exact .any u
 | kb b=>exact .kb b
 | yld l=>exact .yld l
 | own id u h0 ha h=>exact .own id u h0 ha h
 | arr id off n u h0 ha h=>exact .arr id off n u h0 ha h
 | ptr id off u h0 ha h hp=>exact .ptr id off u h0 ha h hp
 | mp id u h0 ha h=>exact .mp id u h0 ha h
 | pa id q u h0 ha h=>exact .pa id q u h0 ha h
 | rp cs off b o us h1 h2 h3 =>
  have Cu:wC cs=true:=by simpa [nmA] using hm
  exact .rp cs off b o us (fun i hi=>⟨hF b (h1 i hi).1 (uH (h1 i hi).2),(h1 i hi).2⟩) (fun i hi=>(h2 i hi).shrink hF (sE Cu i hi)) h3
 | agg cs vs h0 h1 _ ih =>
  have Cu:nmL cs=true:=by simpa [nmA] using hm
  exact .agg cs vs h0 h1 fun i hi=>ih i hi (yD Cu i hi)
 | tup cs vs h1 _ ih =>
  have Cu:nmL cs=true:=by simpa [nmA] using hm
  exact .tup cs vs h1 fun i hi=>ih i hi (yD Cu i hi)
 | fn f cs ds us vs h1 h2 _ _ J8 J9 =>
  have Cu:nmL cs=true∧nmL ds=true:=by simpa [nmA] using hm
  exact .fn f cs ds us vs h1 h2 (fun i hi=>J8 i hi (yD Cu.1 i hi)) fun i hi=>J9 i hi (yD Cu.2 i hi)

def aIj(M:Mem):Prop:=(∀ (i:Nat) (es:List (Value × PV)) (cl:Nat),M[i]? ≠ some (some (.mp es cl)))∧bCr M
def rC:Mem→Bool
 | []=>true
 | some (.pk _ _ _ _)::_=>false
 | some (.mp _ _)::_=>false
 | _::r=>rC r
theorem uI:∀ {m:Mem},rC m=true→aIj m
 | [],_=>⟨fun i es cl h=>by simp at h,fun i o h=>by simp at h⟩
 | none::r,hm=>by
  obtain ⟨h1,h2⟩:=uI (m:=r) hm;refine ⟨fun i es cl h => ?_,fun i o h => ?_⟩
  ·cases i with
   | zero=>simp at h
   | succ i=>exact h1 i es cl (by simpa using h)
  ·cases i with
   | zero=>simp at h
   | succ i=>exact h2 i o (by simpa using h)
 | some x::r,hm=>by
  have hr:rC r=true∧x.isPk=false∧∀ es cl,x ≠ .mp es cl:=by
   cases x with
   | pk=>simp [rC] at hm
   | mp=>simp [rC] at hm
   | _=>exact ⟨by simpa [rC] using hm,rfl,fun _ _ e=>by cases e⟩
  obtain ⟨h1,h2⟩:=uI (m:=r) hr.1;refine ⟨fun i es cl h => ?_,fun i o h => ?_⟩
  ·cases i with
   | zero=>simp at h;exact hr.2.2 _ _ h
   | succ i=>exact h1 i es cl (by simpa using h)
  ·cases i with
   | zero=>simp at h;rw [← h];exact hr.2.1
   | succ i=>exact h2 i o (by simpa using h)

theorem aDn{M':Mem}{W:World}(hn:aIj M')(hq:nmM M'=true)(hF:∀ b,C.F b→b<w.heap.size){C':Cx}(hM:aP P C' M' W)(f:Fr C M w C' M' W) :
  ∃ C'',aP P C'' M' W∧Fr C M w C'' M' W∧(∀ b,C''.F b→b<w.heap.size∨oJ W b):=by
 refine ⟨⟨C'.ι,C'.κ,fun b=>C'.F b∧(b<w.heap.size∨oJ W b),[]⟩,⟨fun i ty n cs hm => ?_,fun i ty cs hm => ?_,fun i es cl hm=>absurd hm (hn.1 _ _ _),hM.inj,fun i o b ho hl hb hf=>hM.nF i o b ho hl hb hf.1,fun b hb=>hM.Fs b hb.1,hM.lt⟩,
  ⟨f.os,f.tape,f.out,f.size,f.keep,f.ids,f.row,f.liv,f.new,fun b hb=>⟨f.F1 b hb,.inl (hF b hb)⟩,fun b hb=>f.F2 b hb.1⟩,fun b hb=>hb.2⟩
 ·rcases hM.row _ _ _ _ hm with h4 | ⟨b,arr,inf,q0,q1,q2,q3,q4,q5,q6,q7,q8⟩
  ·exact .inl h4
  ·exact .inr ⟨b,arr,inf,q0,q1,q2,q3,q4,q5,q6,fun j hj=>(q7 j hj).shrink (fun b hb hs=>⟨hb,.inr hs⟩) (sE ((aUx hq).1 _ _ _ _ hm) j hj),q8⟩
 ·obtain ⟨b,arr,q0,q1,q2,q3,q4⟩:=hM.box _ _ _ hm
  exact ⟨b,arr,q0,q1,q2,fun j hj=>(q3 j hj).shrink (fun b hb hs=>⟨hb,.inr hs⟩) (yD ((aUx hq).2 _ _ _ hm) j hj),q4⟩

def bTx(P:Program)(C:Cx)(M:Mem)(w:World)(M':Mem)(W:World):Prop:=∃ C',aP P C' M' W∧Fr C M w C' M' W

theorem lW{W:World}{b:Nat}{o:Obj}(h:W.heap[b]? = some o)(ho:o.isCells=false):¬ oJ W b:=fun ⟨o',h',hc⟩=>by rw [h] at h';cases h';rw [ho] at hc;cases hc

theorem bTx.own{M':Mem}{W W':World}{row:Option Nat}(hn:aIj M')(hq:nmM M'=true)(hF:∀ b,C.F b→b<w.heap.size)(h:bTx P C M w M' W)(hg:W.grownBy W' row)
  (hr:∀ r,row=some r→w.heap.size≤r∧∃ o:Obj,W.heap[r]? = some o∧o.isCells=false):bTx P C M w M' W':=by
 obtain ⟨C1,h1,h2⟩:=h;obtain ⟨C',hM,f,hS⟩:=aDn hn hq hF h1 h2;have hsame:∀ b,b<W.heap.size→(b<w.heap.size∨oJ W b)→W'.heap[b]? = W.heap[b]? := fun b hb hd=>hg.block b hb (fun e=>by
  obtain ⟨q1,o,q2,q3⟩:=hr b e.symm
  rcases hd with hd | hd
  ·omega
  ·exact lW q2 q3 hd)
 have hFz:∀ b,C'.F b→W'.heap[b]? = W.heap[b]? := fun b hb=>hsame b (hM.Fs b hb) (hS b hb)
 have hL:Le C' C' M' M' W W':=⟨fun _ o h=>⟨o,h⟩,fun _ _ _ _ _ cs h=>⟨cs,h⟩,fun _ o h o' h' hl=>by rw [h] at h';cases h';exact ⟨hl,rfl,rfl⟩,fun _ h=>h,hFz⟩
 refine ⟨C',⟨fun i ty n cs hm => ?_,fun i ty cs hm => ?_,fun i es cl hm=>absurd hm (hn.1 _ _ _),hM.inj,hM.nF,fun b hb=>fK (hM.Fs b hb) hg.size,fun i o b ho hl hb=>fK (hM.lt i o b ho hl hb) hg.size⟩,
  ⟨hg.os.trans f.os,hg.tape.trans f.tape,hg.output.trans f.out,jY f.size hg.size,fun b hb hno=>(hsame b (fK hb f.size) (.inl hb)).trans (f.keep b hb hno),f.ids,f.row,f.liv,f.new,f.F1,f.F2⟩⟩
 ·rcases hM.row _ _ _ _ hm with h4 | ⟨b,arr,inf,q0,q1,q2,q3,q4,q5,q6,q7,q8⟩
  ·exact .inl h4
  ·exact .inr ⟨b,arr,inf,q0,(hsame b (xW.1 q1).1 (.inr (gL q1))).trans q1,q2,q3,q4,q5,q6,fun j hj=>(q7 j hj).mono hL.F hL.fz,q8⟩
 ·obtain ⟨b,arr,q0,q1,q2,q3,q4⟩:=hM.box _ _ _ hm
  exact ⟨b,arr,q0,(hsame b (xW.1 q1).1 (.inr (gL q1))).trans q1,q2,fun j hj=>(q3 j hj).mono hL,q4⟩

structure KpG (F:Nat→Prop) (A B:World):Prop where
 size:A.heap.size≤B.heap.size
 same:∀ b,F b→B.heap[b]? = A.heap[b]?
theorem KpG.refl(F:Nat→Prop)(A:World):KpG F A A:=⟨dJ _,fun _ _=>rfl⟩
theorem KpG.trans{F:Nat→Prop}{A B D:World}(h:KpG F A B)(k:KpG F B D):KpG F A D:=⟨jY h.size k.size,fun b hb=>(k.same b hb).trans (h.same b hb)⟩

def aKv(P:Program){α:Type}(g:AV)(encs:α→Array Value)(gf N:Nat)(S:List α→Prop):Prop:=∀ (C:Cx) (M:Mem) (w:World) (u:Value),Rep C M w g u→(∀ b,C.F b→b<w.heap.size) →
 ∃ lb Sp,u = .func (.func gf) #[] lb∧SeqStopsK Fence.wide 2 P gf lb encs (KpG C.F) S Sp N w

theorem bMz{ro:Option Nat}{n:Nat}:(Fen ro).room n:=fun d hd=>by cases hd
theorem aDo{ro:Option Nat}{n m:Nat}{c:Code}{Q:Exit→Act→World→Prop}{a:Act}(h:c.wpIn (Fen ro) n P Q a w):c.wpIn (Fen ro) m P Q a w:=fun b k cs hro hb _=>h b k cs hro hb bMz

theorem aKw{C:Cx}{M:Mem}{W:World}(hM:aP P C M W)(hn:aIj M){b:Nat}{o:Obj}(h:W.heap[b]? = some o)(ho:o.isCells=false):∀ (id:Nat) (x:AO),M[id]? = some (some x)→x.live=true→C.ι id≠some b:=fun id x hx hl hb=>by
 cases x with
 | row ty n cs =>
  rcases hM.row _ _ _ _ hx with ⟨h1,_⟩ | ⟨b',arr,i,h1,h2,_⟩
  ·rw [hb] at h1;cases h1
  ·rw [hb] at h1;cases h1;exact lW h ho (gL h2)
 | box ty cs =>
  obtain ⟨b',arr,h1,h2,_⟩:=hM.box _ _ _ hx;rw [hb] at h1;cases h1;exact lW h ho (gL h2)
 | mp es cl=>exact hn.1 _ _ _ hx
 | pk to ti sz L=>have:=hn.2 _ _ hx;cases this
 | dead=>cases hl

theorem J0(p q:Nat)(a b:Value)(t:Array Value):(#[p,q].zip #[a,b]).foldl (fun t (x:Nat × Value)=>t.setIfInBounds x.1 x.2) t=(t.setIfInBounds p a).setIfInBounds q b:=by simp

theorem aB.rangeFunc{α:Type}{k kb gi gf p1 p2 d id ty:Nat}{pos:String}{body:Code}{st:St}{g:AV}{N:Nat}{S:List α→Prop}(Mx:List α→Mem)(v1 v2:α→Value)(t':List α→α→List AV)(M':Mem)
  (hg:st.t[gi]? = some g) (h0:Mx []=st.m) (hit:aKv P g (fun x => #[v1 x,v2 x]) gf N S) (eg:∀ args w,(callFunc gf args).run P w = .ok (.enter gf args) w)
  (Pg:∀ pre,rC (Mx pre)=true) (hq:∀ pre,nmM (Mx pre)=true) (hlen:∀ pre,(Mx pre).length≤kb) (hnrf:nrf body=true)
  (hp:∀ x,(put (put st.t (some p1) (.p (.v (v1 x)))) (some p2) .any)[p1]? = some (.p (.v (v1 x))))
  (hbody:∀ pre x,pre.length<N→aB P kb body ⟨put (put (put st.t (some p1) (.p (.v (v1 x)))) (some p2) .any) (some d) (.p (.v (v1 x))),Mx pre⟩ .normal ⟨t' pre x,Mx (pre++[x])⟩)
  (hS:∀ xs,S xs→Mx xs=M') :
  aB P k (.rangeFunc (.tmp gi) #[p1,p2] (.region id #[{ dst:=some d,op := .assign (.tmp p1),type:=ty,pos:=pos,after := #[],guard:=none }] false) body) st .normal ⟨st.t,M'⟩:=by
 have hmp:∀ pre,aIj (Mx pre):=fun pre=>uI (Pg pre)
 intro C0 M0 w0 a w hk hs ro hro n;have Kp:ro=none:=hro.resolve_right (by simp [nrf])
 subst Kp;refine aDo (n:=3) ?_;obtain ⟨C,hSl,hM,hF,hD⟩:=hs;obtain ⟨lb,Sp,hu,hseq⟩:=hit C st.m w _ (hSl.at hg) hM.Fs
 refine wpIn_rangeFunc_ownH (F:=Fen none) (n:=3) rfl (by omega) (gf:=gf) (lb:=lb) hu trivial eg hseq (fun h k=>h.trans k)
  (fun W l o o' hl h1 h2 h3=>⟨by simp,fun b hb=>(grownBy_putObj' W l o').block b (fK (hM.Fs b hb) (jY hl (Nat.le_of_lt (xW.1 h1).1))) (fun e=>by cases e;have:=hM.Fs _ hb;omega)⟩)
  (Below.refl _ _) (fun _=>rfl)
  (fun pre W=>bTx P C st.m w (Mx pre) W) (fun _ _ _=>False)
  (fun pre X Y row hs hg hr=>hs.own (hmp pre) (hq pre) hM.Fs hg hr) (fun _ _ _ _ _ hs _ _=>hs)
  ⟨C,by rw [h0];exact hM,by rw [h0];exact Fr.refl _ _ _⟩
  (fun x a' _=>a'=({ tmps:=(a.tmps.setIfInBounds p1 (v1 x)).setIfInBounds p2 (v2 x),defers:=[] }:Act).put (some d) (({ tmps:=(a.tmps.setIfInBounds p1 (v1 x)).setIfInBounds p2 (v2 x),defers:=[] }:Act).eval (.tmp p1)))
  (fun _ _ _ _ _ _ hs _ _=>hs) ?assign ?body ?done ?stop
 case assign =>
  intro l pre x W K hI hK;rw [J0];refine wpIn_region_lit (wpListIn_plain rfl fun K' Ph => ?_)
  unfold Oper.wpIn;refine ⟨fun f _=>trivial,?_⟩
  rw [Oper.semAt_plain _ _ _ (by intro c F3;cases F3)]
  simp only [execOp,Sem.run_pure];exact Ph _ _ (wpListIn_nil (hK _ _ (KeepsFrom.refl _ _) (KpG.refl _ _) hI rfl))
 case body =>
  rintro l pre x a' W hl _ hI rfl hlt;obtain ⟨C',Eb,Iq⟩:=hI;have hSW:=hSl.le (hM.le Iq);have I4:eC C' (Mx pre) W (put (put (put st.t (some p1) (.p (.v (v1 x)))) (some p2) .any) (some d) (.p (.v (v1 x)))) (({ tmps:=(a.tmps.setIfInBounds p1 (v1 x)).setIfInBounds p2 (v2 x),defers:=[] }:Act).put (some d) (({ tmps:=(a.tmps.setIfInBounds p1 (v1 x)).setIfInBounds p2 (v2 x),defers:=[] }:Act).eval (.tmp p1))).tmps:=by
   have s1:eC C' (Mx pre) W (put (put st.t (some p1) (.p (.v (v1 x)))) (some p2) .any) ((({ tmps:=a.tmps,defers:=[] }:Act).put (some p1) (v1 x)).put (some p2) (v2 x)).tmps :=
    eC.put (eC.put (a:={ tmps:=a.tmps,defers:=[] }) hSW (.p _ _ (.v _))) (.any _)
   exact eC.put s1 (s1.at (hp x))
  refine wpIn_mono (hbody pre x hlt (C'.with []) (Mx pre) W _ W (hlen pre) ⟨C',I4,Eb,(Fr.refl _ _ _).based [],.nil rfl (hmp pre).2⟩ (some l) (.inr hnrf) 1) ?_
  rintro e a2 W2 ⟨rfl,C2,_,Ir,Fw,_⟩;have Fw:=Fw.unbased;refine ⟨⟨Fw.size,fun b o _ hb ho=>(Fw.keep b (xW.1 hb).1 (aKw Eb (hmp pre) hb ho)).trans hb⟩,⟨Fw.size,fun b hb=>(Fw.keep b (fK (hM.Fs b hb) Iq.size) (fun id o ho hl he=>Eb.nF id o b ho hl he (Iq.F1 b hb)))⟩,C2,Ir,Iq.trans Fw⟩
 case done =>
  intro D xs W Ka hSx hI hDm;obtain ⟨C1,h1,h2⟩:=hI;rw [hS xs hSx] at h1 h2
  have hnm:aIj M':=hS xs hSx ▸ hmp xs;obtain ⟨C',Eb,f,hSo⟩:=aDn hnm (hS xs hSx ▸ hq xs) hM.Fs h1 h2;refine ⟨rfl,C',hSl.le (hM.le f),Eb,hF.trans f,?_⟩;obtain ⟨⟨l,e1,e2,e3⟩,hR⟩:=hD.fr hM (fun i to ti sz L h=>by have:=hnm.2 _ _ h;cases this) f
  obtain ⟨⟨l',Kq,_,Pi⟩,_⟩:=hD;have hll:l=l':=by
   have:=e1.symm.trans Kq;exact (List.map_inj_right (fun x y h=>by simpa [mark] using h)).1 this
  refine ⟨⟨D::l,by rw [e1];rfl,List.nodup_cons.2 ⟨fun hin => ?_,e2⟩,fun D' Pj => ?_⟩,hR⟩
  ·rw [hll] at hin
   have:=(xW.1 (Pi D hin).1).1;omega
  ·rcases eO.1 Pj with rfl | hin
   ·refine ⟨hDm,jY hF.size Ka,fun hf => ?_⟩
    rcases hSo _ hf with h | h
    ·omega
    ·exact lW hDm rfl h
   ·exact e3 D' hin
 case stop =>
  intro D c pre W _ _ h _;exact h.elim
def rfS(st:St)(p1 p2 d:Nat)(x:PV):St:=⟨put (put (put st.t (some p1) (.p x)) (some p2) .any) (some d) (.p x),st.m⟩
theorem aB.rangeAcc{α β β':Type}{k kb gi gf p1 p2 d id ty:Nat}{pos:String}{body:Code}{g:AV}{N:Nat}{xs:List β}(val:α→β)(S:β'→St)(T:List AV)(v1 v2:α→Value)(f:β'→α→β')(a0:β')(Inv:Nat→β'→Prop)(R:List β→β')
  {cc:Code} (hcc:cc = .rangeFunc (.tmp gi) #[p1,p2] (.region id #[{ dst:=some d,op := .assign (.tmp p1),type:=ty,pos:=pos,after := #[],guard:=none }] false) body) (hT:∀ acc,(S acc).t=T) (hg:T[gi]? = some g) (hit:aKv P g (fun x => #[v1 x,v2 x]) gf N (fun ys=>ys.map val=xs)) (eg:∀ args w,(callFunc gf args).run P w = .ok (.enter gf args) w)
  (hmp:∀ acc,rC (S acc).m=true) (hq:∀ acc,nmM (S acc).m=true) (hlen:∀ acc,(S acc).m.length≤kb) (hnrf:nrf body=true)
  (hp:∀ x,(put (put T (some p1) (.p (.v (v1 x)))) (some p2) .any)[p1]? = some (.p (.v (v1 x))))
  (h0:Inv 0 a0) (hInv:∀ i acc x,i<N→Inv i acc→Inv (i+1) (f acc x))
  (hbody:∀ i acc x,i<N→Inv i acc→aB P kb body (rfS (S acc) p1 p2 d (.v (v1 x))) .normal (S (f acc x)))
  (hR:∀ ys:List α,ys.foldl f a0=R (ys.map val)) :
  aB P k cc (S a0) .normal (S (R xs)):=by
 subst hcc;have Tj:∀ (pre:List α) (i:Nat) (acc:β'),Inv i acc→i+pre.length≤N→Inv (i+pre.length) (pre.foldl f acc):=by
  intro pre
  induction pre with
  | nil=>intro i acc h _;exact h
  | cons x pre ih =>
   intro i acc h hl;rw [oF] at hl ⊢
   have:=ih (i+1) (f acc x) (hInv i acc x (by omega) h) (by omega)
   rwa [show i+1+pre.length=i+(pre.length+1) by omega] at this
 have hI:∀ (pre:List α),pre.length≤N→Inv pre.length (pre.foldl f a0):=fun pre hl=>by
  have:=Tj pre 0 a0 h0 (by omega)
  rwa [gP] at this
 have:=aB.rangeFunc (P:=P) (k:=k) (kb:=kb) (d:=d) (id:=id) (ty:=ty) (pos:=pos) (body:=body) (st:=S a0) (g:=g) (S:=fun ys=>ys.map val=xs) (fun pre=>(S (pre.foldl f a0)).m) v1 v2 (fun pre x=>T) (S (R xs)).m
  (by rw [hT];exact hg) rfl hit eg (fun pre=>hmp _) (fun pre=>hq _) (fun pre=>hlen _) hnrf (by rw [hT];exact hp)
  (fun pre x hl=>by
   have h1:=hbody pre.length (pre.foldl f a0) x hl (hI pre (by omega))
   unfold rfS at h1
   rw [hT] at h1 ⊢
   rw [vX];have h2:S (f (pre.foldl f a0) x)=⟨T,(S (f (pre.foldl f a0) x)).m⟩:=by rw [← hT (f (pre.foldl f a0) x)]
   rw [h2] at h1
   exact h1)
  (fun ys hy=>by rw [hR,hy])
 have h3:S (R xs)=⟨(S a0).t,(S (R xs)).m⟩:=by rw [hT,← hT (R xs)]
 rw [h3];exact this
end KV
end Go.Proofs
end
namespace Go.Proofs
namespace KV
open Tryz
section

theorem aE.count{P:Program}{k:Nat}{b:Code}{e:Ex}{R:St}(N:Nat)(S:Nat→St)(hs:∀ i,i<N→aB P k b (S i) .normal (S (i+1)))(hx:aB P k b (S N) e R)(he:e ≠ .normal):aE P k b (S 0) e R:=by
 have key:∀ d i,i+d=N→aE P k b (S i) e R:=by
  intro d
  induction d with
  | zero =>
   intro i hi;obtain rfl:i=N:=by omega
   exact .exit hx he
  | succ d ih=>intro i hi;exact .step (hs i (by omega)) (ih (i+1) (by omega))
 exact key N 0 (by omega)

def eJ(l:List Int):List (Value × PV):=l.map fun k=>(.int .i64 k,blP true)
theorem aUv(l:List Int)(k:Int):eJ (l++[k])=eJ l++[(.int .i64 k,blP true)]:=by unfold eJ;rw [jJ];rfl
theorem nI{n:Int}(hn : -1000000≤n∧n≤1000000):aOe .i64 (.int .i64 n)=true:=by
 show (decide (IntKind.i64=IntKind.i64) && (Lit.int .i64 n).wf)=true;have:(Lit.int .i64 n).wf=true:=by
  have e1:IntKind.i64.min = -9223372036854775808:=rfl;have e2:IntKind.i64.max=9223372036854775807:=rfl;simp only [Lit.wf,e1,e2,Bw,decide_eq_true_eq];omega
 rw [this];rfl
theorem aUw{l:List Int}(hn:l.Nodup)(hb:∀ x∈l,-1000000≤x∧x≤1000000){x:Int}(hx : -1000000≤x∧x≤1000000):cJ .i64 (eJ l) (.int .i64 x):=by
 refine ⟨fun e he => ?_,nI hx,?_⟩
 ·obtain ⟨y,hy,rfl⟩:=Bi.1 he
  exact nI (hb y hy)
 ·unfold eJ
  rw [sQ];have:l.map ((fun e:Value × PV=>jX e.1) ∘ fun k=>(Value.int .i64 k,blP true))=l:=by
   conv=>rhs;rw [← List.map_id l]
   exact xX fun x _=>rfl
  rw [this];exact hn
theorem bMx{l:List Int}{x:Int}(h:x∉l):eD (eJ l) (.int .i64 x)=false:=by
 unfold eD;rw [List.any_eq_false];intro e he;obtain ⟨y,hy,rfl⟩:=Bi.1 he;intro h2;have h3:y=x:=of_decide_eq_true h2;exact h (h3 ▸ hy)
theorem bMy{l:List Int}{x:Int}(h:x∈l):eD (eJ l) (.int .i64 x)=true:=by
 unfold eD;rw [List.any_eq_true];exact ⟨_,Bi.2 ⟨x,h,rfl⟩,decide_eq_true rfl⟩

theorem bFc{l:List Int}{x:Int}(h:x∈l):jG (eJ l) (.int .i64 x)=some (blP true):=by
 induction l with
 | nil=>cases h
 | cons a l ih =>
  by_cases e:a=x
  ·subst e;simp [eJ,jG]
  ·have h2:x∈l:=by rcases eO.1 h with h | h;exact absurd h.symm e;exact h
   have:=ih h2;simpa [eJ,jG,jX,e] using this
def within(n lo hi:Int):Bool:=decide (lo≤n) && decide (n≤hi)
def bC(f:Lqq)(j:Nat):List Int:=f.map fun x=>x.getD j 0
theorem Bp{y:List Int}(h:y.length=6):∃ a b c d e f,y=[a,b,c,d,e,f]:=by
 match y,h with
 | [a,b,c,d,e,f],_=>exact ⟨a,b,c,d,e,f,rfl⟩
theorem at2{f:Lqq}(hu:uni 2 f){i:Nat}(hi:i<f.length):∃ a b,f[i]? = some [a,b]:=by
 obtain ⟨a,b,e⟩:=len2 (hu _ (eE hi));exact ⟨a,b,by rw [An hi,e]⟩
theorem Rf{f:Lqq}(hu:uni 6 f){i:Nat}(hi:i<f.length):∃ a b c d e g,f[i]? = some [a,b,c,d,e,g]:=by
 obtain ⟨a,b,c,d,e,g,h⟩:=Bp (hu _ (eE hi));exact ⟨a,b,c,d,e,g,by rw [An hi,h]⟩
end
section
variable {r0:Bool}{n dl hi lo x0 x1 x2 x3 x4 x5 Ac Aa Ab:Int}{dc sk:Lqq}{l m o o' N2 A3:List Int}{i i' Ar base:Nat}

noncomputable abbrev aDl:Code:=sub (cd Tryz.f203) [1,1,0,1,0,0]
noncomputable abbrev bAh:Code:=sub (cd Tryz.f135) [1,1,0,1,0,0]
noncomputable abbrev bAi:Code:=sub (cd Tryz.f204) [1,1,0,1,0,0]
theorem cFo(h0:lo≤n)(Ak:r0=(decide (n≤hi))):FV Tp 198 [(pI n),(pI lo),(pI hi)] base (pB r0) []:=by
 subst Ak;exact FV.fi func198 [bT,bT,bT,bT] (Bf (uD h0) gn)
theorem cFp(h0:n<lo):FV Tp 198 [(pI n),(pI lo),(pI hi)] base (pB false) []:=FV.fi func198 [bF,bF,bF,bF] (Bf (jZ h0) gn)
theorem bS(n lo hi:Int){base:Nat}:FV Tp 198 [.p (aA n),.p (aA lo),.p (aA hi)] base (pB (within n lo hi)) []:=by
 by_cases h:lo≤n
 ·exact cFo h (by simp [within,h])
 ·have e:within n lo hi=false:=by simp [within,h]
  rw [e];exact cFp (show n<lo by omega)
theorem cAa{k:Int}(Ak:r0=(decide (k≤4))):FV Tp 180 [(pI k)] base (pB r0) []:=by
 subst Ak;exact FV.fi func180 [] gn
theorem eM(k:Int){base:Nat}:FV Tp 180 [.p (aA k)] base (pB (decide (k≤4))) []:=cAa rfl
theorem cAb(h0:(within x0 1 999)=true)(Ak:r0=(within x1 (-1) 360000)):FV Tp 200 [(.p (.agg [(aA x0),(aA x1)]))] base (pB r0) []:=by
 subst Ak;have k1:=fk 1 (bS x0 1 999) rfl;have k2:=fk 1 (bS x1 (-1) 360000) rfl;exact FV.fi func200 [k1.o,bT,bT,bT,k2.o,bT] (gc h0 (gc k2 (Aq h0 (gc k1 gn))))
theorem cAc(h0:(within x0 1 999)=false):FV Tp 200 [(.p (.agg [(aA x0),(aA x1)]))] base (pB false) []:=have k1:=fk 1 (bS x0 1 999) rfl;FV.fi func200 [k1.o,bF,bF,bF,bF] (Bf h0 (gc k1 gn))
def skB(x:List Int):Bool:=within (x.getD 0 0) 1 999 && within (x.getD 1 0) (-1) 360000
theorem cAd(x0 x1:Int){base:Nat}:FV Tp 200 [.p (.agg [aA x0,aA x1])] base (pB (skB [x0,x1])) []:=by
 cases h:within x0 1 999 with
 | true=>exact cAb h (show (within x0 1 999 && _)=_ by rw [h];rfl)
 | false=>rw [show skB [x0,x1]=false from show (within x0 1 999 && _)=_ by rw [h];rfl];exact cAc h
def kW(k:Int):Int:=if k=3∨¬ k≤4∧k≠6 then 0 else 36000
def dcB(x:List Int):Bool:=within (x.getD 0 0) 1 9999 && (within (x.getD 1 0) 0 9 && (within (x.getD 2 0) 0 10000 && within (x.getD 4 0) 0 (kW (x.getD 1 0))))
abbrev dcE(a b c d e f:Int):PV := .agg [aA a,aA b,aA c,aA d,aA e,aA f]
theorem gS(a b c d e f:Int):dcB [a,b,c,d,e,f]=(within a 1 9999 && (within b 0 9 && (within c 0 10000 && within e 0 (kW b)))):=rfl
section
variable(h0:x1=3)(h1:(within x0 1 9999)=true)
include h0 h1
theorem cAe(h2:(within x1 0 9)=true)(h3:(within x2 0 10000)=true)(Ak:r0=(within x4 0 0)):FV Tp 202 [(.p (.agg [(aA x0),(aA x1),(aA x2),(aA x3),(aA x4),(aA x5)]))] base (pB r0) []:=by
 subst Ak;have k1:=fk 1 (bS x0 1 9999) rfl;have k2:=fk 1 (bS x1 0 9) rfl;have k3:=fk 1 (bS x2 0 10000) rfl;have k4:=fk 1 (bS x4 0 0) rfl;exact FV.fi func202 (rT 7++[k1.o,bT,bT,bT,k2.o,bT,bT,bT,bT,k3.o]++rT 5++[k4.o,bT]) (gc h3 (gc k4 (Bf h3 (gc h2 (gc k3 (Aq h2 (gc h1 (gc k2 (Aq h1 (gc k1 (Ea (cF h0) gn)))))))))))
theorem cAf(h2:(within x1 0 9)=true)(h3:(within x2 0 10000)=false):FV Tp 202 [(.p (.agg [(aA x0),(aA x1),(aA x2),(aA x3),(aA x4),(aA x5)]))] base (pB false) []:=have k1:=fk 1 (bS x0 1 9999) rfl;have k2:=fk 1 (bS x1 0 9) rfl;have k3:=fk 1 (bS x2 0 10000) rfl;FV.fi func202 (rT 7++[k1.o,bT,bT,bT,k2.o,bT,bT,bT,bT,k3.o,bT]++rF 5) (B7 h3 (gc h2 (gc k3 (Aq h2 (gc h1 (gc k2 (Aq h1 (gc k1 (Ea (cF h0) gn)))))))))
theorem cAg(h2:(within x1 0 9)=false):FV Tp 202 [(.p (.agg [(aA x0),(aA x1),(aA x2),(aA x3),(aA x4),(aA x5)]))] base (pB false) []:=have k1:=fk 1 (bS x0 1 9999) rfl;have k2:=fk 1 (bS x1 0 9) rfl;FV.fi func202 (rT 7++[k1.o,bT,bT,bT,k2.o,bT,bF,bF,bF,bF]) (Bf h2 (gc h1 (gc k2 (Aq h1 (gc k1 (Ea (cF h0) gn))))))
end
theorem cAh(h0:x1=3)(h1:(within x0 1 9999)=false):FV Tp 202 [(.p (.agg [(aA x0),(aA x1),(aA x2),(aA x3),(aA x4),(aA x5)]))] base (pB false) []:=have k1:=fk 1 (bS x0 1 9999) rfl;FV.fi func202 (rT 7++[k1.o,bF,bF,bF,bF]) (Bf h1 (gc k1 (Ea (cF h0) gn)))
section
variable(h0:x1≠3)(h1:(decide (x1≤4))=false)
include h0 h1
theorem cAi(h2:x1≠6)(h3:(within x0 1 9999)=true)(h4:(within x1 0 9)=true)(h5:(within x2 0 10000)=true)(Ak:r0=(within x4 0 0)):FV Tp 202 [(.p (.agg [(aA x0),(aA x1),(aA x2),(aA x3),(aA x4),(aA x5)]))] base (pB r0) []:=by
 subst Ak;have k1:=fk 1 (eM x1) rfl;have k2:=fk 1 (bS x0 1 9999) rfl;have k3:=fk 1 (bS x1 0 9) rfl;have k4:=fk 1 (bS x2 0 10000) rfl;have k5:=fk 1 (bS x4 0 0) rfl;exact FV.fi func202 ([bF,bF,bF,k1.o,bF,bF,bT,bT,bT,bF,bT,bF,bT,k2.o,bT,bT,bT,k3.o,bT,bT,bT,bT,k4.o]++rT 5++[k5.o,bT]) (gc h5 (gc k5 (Bf h5 (gc h4 (gc k4 (Aq h4 (gc h3 (gc k3 (Aq h3 (gc k2 (gc (gY h2) (gc (bK h0) (gc (cA h1) (gc (bK h0) (Aq (cA h1) (Ap (bK h0) (gc k1 (Aq (bK h0) gn))))))))))))))))))
theorem cAj(h2:x1≠6)(h3:(within x0 1 9999)=true)(h4:(within x1 0 9)=true)(h5:(within x2 0 10000)=false):FV Tp 202 [(.p (.agg [(aA x0),(aA x1),(aA x2),(aA x3),(aA x4),(aA x5)]))] base (pB false) []:=have k1:=fk 1 (eM x1) rfl;have k2:=fk 1 (bS x0 1 9999) rfl;have k3:=fk 1 (bS x1 0 9) rfl;have k4:=fk 1 (bS x2 0 10000) rfl;FV.fi func202 ([bF,bF,bF,k1.o,bF,bF,bT,bT,bT,bF,bT,bF,bT,k2.o,bT,bT,bT,k3.o,bT,bT,bT,bT,k4.o,bT]++rF 5) (B7 h5 (gc h4 (gc k4 (Aq h4 (gc h3 (gc k3 (Aq h3 (gc k2 (gc (gY h2) (gc (bK h0) (gc (cA h1) (gc (bK h0) (Aq (cA h1) (Ap (bK h0) (gc k1 (Aq (bK h0) gn))))))))))))))))
theorem cAk(h2:x1≠6)(h3:(within x0 1 9999)=true)(h4:(within x1 0 9)=false):FV Tp 202 [(.p (.agg [(aA x0),(aA x1),(aA x2),(aA x3),(aA x4),(aA x5)]))] base (pB false) []:=have k1:=fk 1 (eM x1) rfl;have k2:=fk 1 (bS x0 1 9999) rfl;have k3:=fk 1 (bS x1 0 9) rfl;FV.fi func202 [bF,bF,bF,k1.o,bF,bF,bT,bT,bT,bF,bT,bF,bT,k2.o,bT,bT,bT,k3.o,bT,bF,bF,bF,bF] (Bf h4 (gc h3 (gc k3 (Aq h3 (gc k2 (gc (gY h2) (gc (bK h0) (gc (cA h1) (gc (bK h0) (Aq (cA h1) (Ap (bK h0) (gc k1 (Aq (bK h0) gn)))))))))))))
theorem cAl(h2:x1≠6)(h3:(within x0 1 9999)=false):FV Tp 202 [(.p (.agg [(aA x0),(aA x1),(aA x2),(aA x3),(aA x4),(aA x5)]))] base (pB false) []:=have k1:=fk 1 (eM x1) rfl;have k2:=fk 1 (bS x0 1 9999) rfl;FV.fi func202 [bF,bF,bF,k1.o,bF,bF,bT,bT,bT,bF,bT,bF,bT,k2.o,bF,bF,bF,bF] (Bf h3 (gc k2 (gc (gY h2) (gc (bK h0) (gc (cA h1) (gc (bK h0) (Aq (cA h1) (Ap (bK h0) (gc k1 (Aq (bK h0) gn))))))))))
theorem cAm(h2:x1=6)(h3:(within x0 1 9999)=true)(h4:(within x1 0 9)=true)(h5:(within x2 0 10000)=true)(Ak:r0=(within x4 0 36000)):FV Tp 202 [(.p (.agg [(aA x0),(aA x1),(aA x2),(aA x3),(aA x4),(aA x5)]))] base (pB r0) []:=by
 subst Ak;have k1:=fk 1 (eM x1) rfl;have k2:=fk 1 (bS x0 1 9999) rfl;have k3:=fk 1 (bS x1 0 9) rfl;have k4:=fk 1 (bS x2 0 10000) rfl;have k5:=fk 1 (bS x4 0 36000) rfl;exact FV.fi func202 ([bF,bF,bF,k1.o,bF,bF,bT,bT,bT,bF,bT,bF,bF,k2.o,bT,bT,bT,k3.o,bT,bT,bT,bT,k4.o]++rT 5++[k5.o,bT]) (gc h5 (gc k5 (Bf h5 (gc h4 (gc k4 (Aq h4 (gc h3 (gc k3 (Aq h3 (gc k2 (gc (cR h2) (gc (bK h0) (gc (cA h1) (gc (bK h0) (Aq (cA h1) (Ap (bK h0) (gc k1 (Aq (bK h0) gn))))))))))))))))))
theorem cAn(h2:x1=6)(h3:(within x0 1 9999)=true)(h4:(within x1 0 9)=true)(h5:(within x2 0 10000)=false):FV Tp 202 [(.p (.agg [(aA x0),(aA x1),(aA x2),(aA x3),(aA x4),(aA x5)]))] base (pB false) []:=have k1:=fk 1 (eM x1) rfl;have k2:=fk 1 (bS x0 1 9999) rfl;have k3:=fk 1 (bS x1 0 9) rfl;have k4:=fk 1 (bS x2 0 10000) rfl;FV.fi func202 ([bF,bF,bF,k1.o,bF,bF,bT,bT,bT,bF,bT,bF,bF,k2.o,bT,bT,bT,k3.o,bT,bT,bT,bT,k4.o,bT]++rF 5) (B7 h5 (gc h4 (gc k4 (Aq h4 (gc h3 (gc k3 (Aq h3 (gc k2 (gc (cR h2) (gc (bK h0) (gc (cA h1) (gc (bK h0) (Aq (cA h1) (Ap (bK h0) (gc k1 (Aq (bK h0) gn))))))))))))))))
theorem bTr(h2:x1=6)(h3:(within x0 1 9999)=true)(h4:(within x1 0 9)=false):FV Tp 202 [(.p (.agg [(aA x0),(aA x1),(aA x2),(aA x3),(aA x4),(aA x5)]))] base (pB false) []:=have k1:=fk 1 (eM x1) rfl;have k2:=fk 1 (bS x0 1 9999) rfl;have k3:=fk 1 (bS x1 0 9) rfl;FV.fi func202 [bF,bF,bF,k1.o,bF,bF,bT,bT,bT,bF,bT,bF,bF,k2.o,bT,bT,bT,k3.o,bT,bF,bF,bF,bF] (Bf h4 (gc h3 (gc k3 (Aq h3 (gc k2 (gc (cR h2) (gc (bK h0) (gc (cA h1) (gc (bK h0) (Aq (cA h1) (Ap (bK h0) (gc k1 (Aq (bK h0) gn)))))))))))))
theorem bTs(h2:x1=6)(h3:(within x0 1 9999)=false):FV Tp 202 [(.p (.agg [(aA x0),(aA x1),(aA x2),(aA x3),(aA x4),(aA x5)]))] base (pB false) []:=have k1:=fk 1 (eM x1) rfl;have k2:=fk 1 (bS x0 1 9999) rfl;FV.fi func202 [bF,bF,bF,k1.o,bF,bF,bT,bT,bT,bF,bT,bF,bF,k2.o,bF,bF,bF,bF] (Bf h3 (gc k2 (gc (cR h2) (gc (bK h0) (gc (cA h1) (gc (bK h0) (Aq (cA h1) (Ap (bK h0) (gc k1 (Aq (bK h0) gn))))))))))
end
section
variable(h0:x1≠3)(h1:(decide (x1≤4))=true)(h2:(within x0 1 9999)=true)
include h0 h1 h2
theorem bTt(h3:(within x1 0 9)=true)(h4:(within x2 0 10000)=true)(Ak:r0=(within x4 0 36000)):FV Tp 202 [(.p (.agg [(aA x0),(aA x1),(aA x2),(aA x3),(aA x4),(aA x5)]))] base (pB r0) []:=by
 subst Ak;have k1:=fk 1 (eM x1) rfl;have k2:=fk 1 (bS x0 1 9999) rfl;have k3:=fk 1 (bS x1 0 9) rfl;have k4:=fk 1 (bS x2 0 10000) rfl;have k5:=fk 1 (bS x4 0 36000) rfl;exact FV.fi func202 ([bF,bF,bF,k1.o]++rF 8++[k2.o,bT,bT,bT,k3.o,bT,bT,bT,bT,k4.o]++rT 5++[k5.o,bT]) (gc h4 (gc k5 (Bf h4 (gc h3 (gc k4 (Aq h3 (gc h2 (gc k3 (Aq h2 (gc k2 (gc (bK h0) (gc (aH h1) (gc (bK h0) (Aq (aH h1) (Ap (bK h0) (gc k1 (Aq (bK h0) gn)))))))))))))))))
theorem bTu(h3:(within x1 0 9)=true)(h4:(within x2 0 10000)=false):FV Tp 202 [(.p (.agg [(aA x0),(aA x1),(aA x2),(aA x3),(aA x4),(aA x5)]))] base (pB false) []:=have k1:=fk 1 (eM x1) rfl;have k2:=fk 1 (bS x0 1 9999) rfl;have k3:=fk 1 (bS x1 0 9) rfl;have k4:=fk 1 (bS x2 0 10000) rfl;FV.fi func202 ([bF,bF,bF,k1.o]++rF 8++[k2.o,bT,bT,bT,k3.o,bT,bT,bT,bT,k4.o,bT]++rF 5) (B7 h4 (gc h3 (gc k4 (Aq h3 (gc h2 (gc k3 (Aq h2 (gc k2 (gc (bK h0) (gc (aH h1) (gc (bK h0) (Aq (aH h1) (Ap (bK h0) (gc k1 (Aq (bK h0) gn)))))))))))))))
theorem bTv(h3:(within x1 0 9)=false):FV Tp 202 [(.p (.agg [(aA x0),(aA x1),(aA x2),(aA x3),(aA x4),(aA x5)]))] base (pB false) []:=have k1:=fk 1 (eM x1) rfl;have k2:=fk 1 (bS x0 1 9999) rfl;have k3:=fk 1 (bS x1 0 9) rfl;FV.fi func202 ([bF,bF,bF,k1.o]++rF 8++[k2.o,bT,bT,bT,k3.o,bT,bF,bF,bF,bF]) (Bf h3 (gc h2 (gc k3 (Aq h2 (gc k2 (gc (bK h0) (gc (aH h1) (gc (bK h0) (Aq (aH h1) (Ap (bK h0) (gc k1 (Aq (bK h0) gn))))))))))))
end
theorem bTw(h0:x1≠3)(h1:(decide (x1≤4))=true)(h2:(within x0 1 9999)=false):FV Tp 202 [(.p (.agg [(aA x0),(aA x1),(aA x2),(aA x3),(aA x4),(aA x5)]))] base (pB false) []:=have k1:=fk 1 (eM x1) rfl;have k2:=fk 1 (bS x0 1 9999) rfl;FV.fi func202 ([bF,bF,bF,k1.o]++rF 8++[k2.o,bF,bF,bF,bF]) (Bf h2 (gc k2 (gc (bK h0) (gc (aH h1) (gc (bK h0) (Aq (aH h1) (Ap (bK h0) (gc k1 (Aq (bK h0) gn)))))))))
theorem cAo(x0 x1 x2 x3 x4 x5:Int){base:Nat}:FV Tp 202 [.p (dcE x0 x1 x2 x3 x4 x5)] base (pB (dcB [x0,x1,x2,x3,x4,x5])) []:=by
 by_cases h3:x1=3
 ·have hm:kW x1=0:=by unfold kW;rw [if_pos (.inl h3)]
  cases Da:within x0 1 9999 with
  | false=>rw [gS,Da,Bool.false_and];exact cAh h3 Da
  | true =>
  cases D3:within x1 0 9 with
  | false=>rw [gS,Da,D3,iL,Bool.false_and];exact cAg h3 Da D3
  | true =>
  cases Ev:within x2 0 10000 with
  | false=>rw [gS,Da,D3,Ev,iL,iL,Bool.false_and];exact cAf h3 Da D3 Ev
  | true =>
  rw [gS,Da,D3,Ev,iL,iL,iL,hm];exact cAe h3 Da D3 Ev rfl
 by_cases h4:x1≤4
 ·have hm:kW x1=36000:=by unfold kW;rw [if_neg (by omega)]
  have Hb:decide (x1≤4)=true:=by simpa using h4
  cases Da:within x0 1 9999 with
  | false=>rw [gS,Da,Bool.false_and];exact bTw h3 Hb Da
  | true =>
  cases D3:within x1 0 9 with
  | false=>rw [gS,Da,D3,iL,Bool.false_and];exact bTv h3 Hb Da D3
  | true =>
  cases Ev:within x2 0 10000 with
  | false=>rw [gS,Da,D3,Ev,iL,iL,Bool.false_and];exact bTu h3 Hb Da D3 Ev
  | true =>
  rw [gS,Da,D3,Ev,iL,iL,iL,hm];exact bTt h3 Hb Da D3 Ev rfl
 have Hb:decide (x1≤4)=false:=by simpa using h4
 by_cases h6:x1=6
 ·have hm:kW x1=36000:=by unfold kW;rw [if_neg (by omega)]
  cases Da:within x0 1 9999 with
  | false=>rw [gS,Da,Bool.false_and];exact bTs h3 Hb h6 Da
  | true =>
  cases D3:within x1 0 9 with
  | false=>rw [gS,Da,D3,iL,Bool.false_and];exact bTr h3 Hb h6 Da D3
  | true =>
  cases Ev:within x2 0 10000 with
  | false=>rw [gS,Da,D3,Ev,iL,iL,Bool.false_and];exact cAn h3 Hb h6 Da D3 Ev
  | true =>
  rw [gS,Da,D3,Ev,iL,iL,iL,hm];exact cAm h3 Hb h6 Da D3 Ev rfl
 have hm:kW x1=0:=by unfold kW;rw [if_pos (by omega)]
 cases Da:within x0 1 9999 with
 | false=>rw [gS,Da,Bool.false_and];exact cAl h3 Hb h6 Da
 | true =>
 cases D3:within x1 0 9 with
 | false=>rw [gS,Da,D3,iL,Bool.false_and];exact cAk h3 Hb h6 Da D3
 | true =>
 cases Ev:within x2 0 10000 with
 | false=>rw [gS,Da,D3,Ev,iL,iL,Bool.false_and];exact cAj h3 Hb h6 Da D3 Ev
 | true =>
 rw [gS,Da,D3,Ev,iL,iL,iL,hm];exact cAi h3 Hb h6 Da D3 Ev rfl

def mW(l:List Int)(i:Nat)(me:List (Value × PV))(mk:Nat):St:=⟨fr 19 [(3,(.mp 0)),(7,(.p (aC l))),(8,(pI (l.length:Int))),(9,(pI (i:Int)))],[some (.mp me mk)]⟩
theorem cFq(hl0:aE Tp 0 aDl (mW l 0 [] 0) (.exit 0) (mW l Ar (eJ N2) N2.length)):FV Tp 203 [(.p (aC l))] base (pB false) []:=FV.fi func203 [hl0.k 8 (gI cu [0])] (gc hl0.code gn)
theorem cFr(hl0:aE Tp 0 aDl (mW l 0 [] 0) .ret (bZ (mW l Ar (eJ N2) N2.length) [(2,(.kb true))])):FV Tp 203 [(.p (aC l))] base (pB true) []:=FV.fi func203 [hl0.k 8 (gI cu [0])] (gc hl0.code gn)
section
variable(h0:(i:Int)<(l.length:Int))(h1:l[i]? = some Ac)(h2:cJ .i64 (eJ m) (.int .i64 Ac))
include h0 h1 h2
theorem bMu{Ab:Bool}(h3:(eD (eJ m) (.int .i64 Ac))=true)(h4:jG (eJ m) (.int .i64 Ac)=some (blP Ab))(h5:Ab=true):aB Tp 0 aDl (mW l i (eJ m) m.length) .ret (bZ (mW l i (eJ m) m.length) [(2,(.kb true))]):=aB.fi (gI cw [0]) [bT,.x (aA Ac),bT,.x (blP Ab),bT] (gc h5 (gc h4 (gc h3 (gc h2 (gc (atm aA h1) (gc (ixn aA h1) (g0 h0)))))))
theorem bMv{m':List Int}(h3:(eD (eJ m) (.int .i64 Ac))=false)(h4:di i)(Ai:i'=(i+1))(Pe:eJ m'=((eJ m)++[((.int .i64 Ac),(blP true))]))(Pf:m'.length=(m.length+1)):aB Tp 0 aDl (mW l i (eJ m) m.length) .normal (mW l i' (eJ m') m'.length):=by
 subst Ai;rw [Pe,Pf];exact aB.fi (gI cu [0]) [bT,.x (aA Ac),bF,bF,bF] (gc h4 (gc h3 (gc h2 (gf (gc h3 (gc h2 (gc (atm aA h1) (gc (ixn aA h1) (g0 h0)))))))))
end
theorem bMw(h0:(l.length:Int)≤(i:Int)):aB Tp 0 aDl (mW l i (eJ m) m.length) (.exit 0) (mW l i (eJ m) m.length):=aB.fi (gI cu [0]) [bF] (gc (aQ h0) gn)
def rA(sk:Lqq)(i on:Nat)(oc:List PV):St:=⟨fr 20 [(2,(.p cX)),(3,(.own 0)),(7,(.p (fS sk))),(8,(pI (sk.length:Int))),(9,(pI (i:Int)))],[some (.row 3 on oc)]⟩
theorem cAp(hl0:aE Tp 0 bAh (rA sk 0 0 []) (.exit 0) (rA sk Ar A3.length (A3.map aA))):FV Tp 135 [(.p (.agg [(aA dl),(fS sk),(fS dc)]))] base (.own base) [(base,(.row 3 A3.length (A3.map aA)))]:=FV.fi func135 [hl0.k 8 (gN cw [1] [(3,3)])] (gc hl0.code gn)
theorem bEy(h0:(i:Int)<(sk.length:Int))(h1:sk[i]? = some [Aa,Ab])(h2:uni 2 sk)(h3:[(aA Aa)].length=1*1∧o.length+1≤1000000)(h4:di i)(Ai:i'=(i+1))(B0:o'.length=(o.length+1))(B1:o'.map aA=((o.map aA)++[(aA Aa)])):aB Tp 0 bAh (rA sk i o.length (o.map aA)) .normal (rA sk i' o'.length (o'.map aA)):=by
 subst Ai;rw [B0,B1];exact aB.fi (gI cw [3]) [bT,.x (.agg [(aA Aa),(aA Ab)])] (gc h4 (gc h3 (gfl h2 h1 (g0 h0))))
theorem bEz(h0:(sk.length:Int)≤(i:Int)):aB Tp 0 bAh (rA sk i o.length (o.map aA)) (.exit 0) (rA sk i o.length (o.map aA)):=aB.fi (gI cw [0]) [bF] (gc (aQ h0) gn)
def rB(dc:Lqq)(i on:Nat)(oc:List PV):St:=⟨fr 20 [(2,(.p cX)),(3,(.own 0)),(7,(.p (fS dc))),(8,(pI (dc.length:Int))),(9,(pI (i:Int)))],[some (.row 3 on oc)]⟩
theorem cAq(hl0:aE Tp 0 bAi (rB dc 0 0 []) (.exit 0) (rB dc Ar A3.length (A3.map aA))):FV Tp 204 [(.p (.agg [(aA dl),(fS sk),(fS dc)]))] base (.own base) [(base,(.row 3 A3.length (A3.map aA)))]:=FV.fi func204 [hl0.k 8 (gN cw [1] [(3,3)])] (gc hl0.code gn)
theorem bFa{Ad Af Ae Ag:Int}(h0:(i:Int)<(dc.length:Int))(h1:dc[i]? = some [Aa,Ab,Ad,Af,Ae,Ag])(h2:uni 6 dc)(h3:[(aA Aa)].length=1*1∧o.length+1≤1000000)(h4:di i)(Ai:i'=(i+1))(B0:o'.length=(o.length+1))(B1:o'.map aA=((o.map aA)++[(aA Aa)])):aB Tp 0 bAi (rB dc i o.length (o.map aA)) .normal (rB dc i' o'.length (o'.map aA)):=by
 subst Ai;rw [B0,B1];exact aB.fi (gI cw [3]) [bT,.x (.agg [(aA Aa),(aA Ab),(aA Ad),(aA Af),(aA Ae),(aA Ag)])] (gc h4 (gc h3 (gfl h2 h1 (g0 h0))))
theorem bFb(h0:(dc.length:Int)≤(i:Int)):aB Tp 0 bAi (rB dc i o.length (o.map aA)) (.exit 0) (rB dc i o.length (o.map aA)):=aB.fi (gI cw [0]) [bF] (gc (aQ h0) gn)
theorem bAj(l:List Int)(hl:l.length≤1000)(hb:∀ x∈l,-1000000≤x∧x≤1000000):∀ (d i:Nat),i+d=l.length→(l.take i).Nodup →
  (l.Nodup∧aE Tp 0 aDl (mW l i (eJ (l.take i)) (l.take i).length) (.exit 0) (mW l l.length (eJ l) l.length))∨(¬ l.Nodup∧∃ i' m',aE Tp 0 aDl (mW l i (eJ (l.take i)) (l.take i).length) .ret (bZ (mW l i' (eJ m') m'.length) [(2,.kb true)]))
 | 0,i,h,hn=>by
  obtain rfl:i=l.length:=by omega
  rw [List.take_length] at hn ⊢
  exact .inl ⟨hn,.exit (bMw (by omega)) (by simp)⟩
 | d+1,i,h,hn=>by
  have hi:i<l.length:=by omega
  have hx:l[i]? = some l[i]:=An hi;have et:l.take (i+1)=l.take i++[l[i]]:=by rw [List.take_add_one,hx];rfl
  have hk:=aUw hn (fun x hx=>hb x (List.mem_of_mem_take hx)) (hb _ (eE hi))
  by_cases hm:l[i]∈l.take i
  ·refine .inr ⟨fun hnd => ?_,i,l.take i,.exit (bMu (by omega) hx hk (bMy hm) (bFc hm) rfl) (by simp)⟩
   obtain ⟨j,hj,e⟩:=List.mem_iff_getElem.1 hm;rw [kV] at hj
   rw [List.getElem_take] at e
   exact List.pairwise_iff_getElem.1 hnd j i (by omega) hi (by omega) e
  ·have Ox:(l.take (i+1)).Nodup:=by
    rw [et,List.nodup_append];exact ⟨hn,by simp,fun a ha b hb e=>hm (by simp at hb;rw [← hb,← e];exact ha)⟩
   have hstep:=bMv (m:=l.take i) (m':=l.take (i+1)) (i':=i+1) (by omega) hx hk (bMx hm) (aM (by omega)) rfl (by rw [et,aUv]) (by simp;omega)
   rcases bAj l hl hb d (i+1) (by omega) Ox with ⟨q1,q2⟩ | ⟨q1,i',m',q2⟩
   ·exact .inl ⟨q1,.step hstep q2⟩
   ·exact .inr ⟨q1,i',m',.step hstep q2⟩
theorem wB(l:List Int)(hl:l.length≤1000)(hb:∀ x∈l,-1000000≤x∧x≤1000000){base:Nat}:FV Tp 203 [.p (aC l)] base (pB (!decide l.Nodup)) []:=by
 rcases bAj l hl hb l.length 0 (by omega) (by simp) with ⟨q1,q2⟩ | ⟨q1,i',m',q2⟩
 ·rw [decide_eq_true q1];exact cFq q2
 ·rw [decide_eq_false q1];exact cFr q2
theorem yC(dl:Int)(sk dc:Lqq)(h:uni 2 sk∧sk.length≤1000){base:Nat}:FV Tp 135 [.p (.agg [aA dl,.sl sk.length (sk.flatten.map aA),.sl dc.length (dc.flatten.map aA)])] base (.own base) [(base,.row 3 (bC sk 0).length ((bC sk 0).map aA))]:=by
 obtain ⟨hu,hl⟩:=h;have L:=aE.count (P:=Tp) (k:=0) (b:=bAh) (e := .exit 0) (R:=rA sk sk.length (bC sk 0).length ((bC sk 0).map aA)) sk.length (fun i=>rA sk i (bC (sk.take i) 0).length ((bC (sk.take i) 0).map aA))
  (fun i Bs=>by
   obtain ⟨a,b,hx⟩:=at2 hu Bs;have et:sk.take (i+1)=sk.take i++[[a,b]]:=by rw [List.take_add_one,hx];rfl
   exact bEy (o:=bC (sk.take i) 0) (o':=bC (sk.take (i+1)) 0) (by omega) hx hu ⟨rfl,by simp [bC];omega⟩ (aM (by omega)) rfl (by simp [bC];omega) (by rw [et];simp [bC]))
  (by rw [List.take_length];exact bEz (by omega)) (by simp)
 exact cAp L
theorem aKu(dl:Int)(sk dc:Lqq)(h:uni 6 dc∧dc.length≤1000){base:Nat}:FV Tp 204 [.p (.agg [aA dl,.sl sk.length (sk.flatten.map aA),.sl dc.length (dc.flatten.map aA)])] base (.own base) [(base,.row 3 (bC dc 0).length ((bC dc 0).map aA))]:=by
 obtain ⟨hu,hl⟩:=h;have L:=aE.count (P:=Tp) (k:=0) (b:=bAi) (e := .exit 0) (R:=rB dc dc.length (bC dc 0).length ((bC dc 0).map aA)) dc.length (fun i=>rB dc i (bC (dc.take i) 0).length ((bC (dc.take i) 0).map aA))
  (fun i Bs=>by
   obtain ⟨a,b,c,d,e,g,hx⟩:=Rf hu Bs;have et:dc.take (i+1)=dc.take i++[[a,b,c,d,e,g]]:=by rw [List.take_add_one,hx];rfl
   exact bFa (o:=bC (dc.take i) 0) (o':=bC (dc.take (i+1)) 0) (by omega) hx hu ⟨rfl,by simp [bC];omega⟩ (aM (by omega)) rfl (by simp [bC];omega) (by rw [et];simp [bC]))
  (by rw [List.take_length];exact bFb (by omega)) (by simp)
 exact cAq L
end
section
variable {r0:Bool}{v dl x0 x1 x2 x3 x4 x5 Ac Aa Ab Ad Af Ae Ag:Int}{l dc sk:Lqq}{i i' Ar base:Nat}
variable {dl:Int}{sk dc:Lqq}

noncomputable abbrev kA:Code:=sub (cd Tryz.f277) [1,0,1,0,0]
noncomputable abbrev aIh:Code:=sub (cd Tryz.f20) [1,0,1,0,0]
noncomputable abbrev aIi:Code:=sub (cd Tryz.f276) [1,0,1,0,0]
def kF(l:List Int)(v:Int)(i:Nat):St:=⟨fr 19 [(0,(.p (aC l))),(1,(pI v)),(7,(pI (l.length:Int))),(8,(pI (i:Int)))],[]⟩
theorem bZn{l:List Int}(hl0:aE Tp 0 aIh (kF l v 0) (.exit 0) (kF l v Ar)):FV Tp 20 [(.p (aC l)),(pI v)] base (pI (-1)) []:=FV.fi func20 [hl0.k 6 (gZ dg)] (gc hl0.code gn)
theorem bZo{l:List Int}(hl0:aE Tp 0 aIh (kF l v 0) .ret (bZ (kF l v Ar) [(4,(pI (Ar:Int)))])):FV Tp 20 [(.p (aC l)),(pI v)] base (pI (Ar:Int)) []:=FV.fi func20 [hl0.k 6 (gZ dg)] (gc hl0.code gn)
section
variable{l:List Int}(h0:(i:Int)<(l.length:Int))(h1:l[i]? = some Ac)
include h0 h1
theorem bEv(h2:v=Ac):aB Tp 0 aIh (kF l v i) .ret (bZ (kF l v i) [(4,(pI (i:Int)))]):=aB.fi (gZ cx) [bT,.x (aA Ac),bT] (gc (cF h2) (gc (atm aA h1) (gc (ixn aA h1) (g0 h0))))
theorem bEw(h2:v≠Ac)(h3:di i)(Ai:i'=(i+1)):aB Tp 0 aIh (kF l v i) .normal (kF l v i'):=by
 subst Ai;exact aB.fi (gZ dg) [bT,.x (aA Ac),bF] (gc h3 (gc (bK h2) (gc (atm aA h1) (gc (ixn aA h1) (g0 h0)))))
end
theorem bEx{l:List Int}(h0:(l.length:Int)≤(i:Int)):aB Tp 0 aIh (kF l v i) (.exit 0) (kF l v i):=aB.fi (gZ dg) [bF] (gc (aQ h0) gn)
theorem bMr(l:List Int)(v:Int)(hl:l.length≤1000){base:Nat}:FV Tp 20 [.p (aC l),.p (aA v)] base (pI (fC (fun x=>decide (v=x)) l)) []:=by
 rcases aE.find (P:=Tp) (k:=0) (b:=aIh) (fun i=>kF l v i) (fun i _=>bZ (kF l v i) [(4,.p (aA (i:Int)))]) (kF l v l.length) .ret (.exit 0) (by simp) (by simp) (fun x=>decide (v=x)) l
  (fun i x hx hp=>bEw (by have:=aY hx;omega) hx (by simpa using hp) (aM (by have:=aY hx;omega)) rfl)
  (fun i x hx hp=>bEv (by have:=aY hx;omega) hx (by simpa using hp))
  (bEx (l:=l) (i:=l.length) (by omega)) with ⟨i,x,h1,h2,h3,h4⟩ | ⟨h1,h2,h3⟩
 ·rw [dR h2];exact bZo h4
 ·rw [dV h1];exact bZn h3
theorem bZp{l:List Int}(h0:l.length≤1000)(Ak:r0=(decide ((fC (fun x=>decide (v=x)) l) ≥ 0))):FV Tp 22 [(.p (aC l)),(pI v)] base (pB r0) []:=by
 subst Ak;have k1:=fk 0 (bMr l v h0) rfl;exact FV.fi func22 [k1.o] (gc k1 gn)
theorem aKt(l:List Int)(v:Int):decide (fC (fun x=>decide (v=x)) l ≥ 0)=l.contains v:=by
 rw [fD]
 induction l with
 | nil=>rfl
 | cons a l ih=>rw [List.any_cons,ih,List.contains_cons];rfl
theorem bMs(l:List Int)(v:Int)(hl:l.length≤1000){base:Nat}:FV Tp 22 [.p (aC l),.p (aA v)] base (pB (l.contains v)) []:=bZp hl (aKt l v).symm
theorem bZq(h0:(decide (x1≤4))=true)(Ak:r0=(x5 == 0)):FV Tp 206 [(.p (.agg [(aA x0),(aA x1),(aA x2),(aA x3),(aA x4),(aA x5)]))] base (pB r0) []:=by
 subst Ak;have k1:=fk 1 (eM x1) rfl;exact FV.fi func206 [k1.o,bT] (gc h0 (gc k1 gn))
theorem bZr(h0:(decide (x1≤4))=false)(h1:inR (x0-1))(Ak:r0=(within x5 1 (x0-1))):FV Tp 206 [(.p (.agg [(aA x0),(aA x1),(aA x2),(aA x3),(aA x4),(aA x5)]))] base (pB r0) []:=by
 subst Ak;have k1:=fk 1 (eM x1) rfl;have k2:=fk 1 (bS x5 1 (x0-1)) rfl;exact FV.fi func206 [k1.o,bF,k2.o] (gc k2 (gc h1 (gc h0 (gc k1 gn))))
def orB(x:List Int):Bool:=if x.getD 1 0≤4 then x.getD 5 0 == 0 else within (x.getD 5 0) 1 (x.getD 0 0-1)
theorem bZs(a b c d e f:Int)(h:inR (a-1)){base:Nat}:FV Tp 206 [.p (dcE a b c d e f)] base (pB (orB [a,b,c,d,e,f])) []:=by
 by_cases hb:b≤4
 ·exact bZq (by simpa using hb) (show (if b≤4 then f == 0 else within f 1 (a-1))=_ by rw [if_pos hb])
 ·exact bZr (by simpa using hb) h (show (if b≤4 then f == 0 else within f 1 (a-1))=_ by rw [if_neg hb])
theorem bZt(h0:(decide (x1≤4))=true)(h1:uni 2 sk∧sk.length≤1000)(h2:(bC sk 0).length≤1000)(Ak:r0=((bC sk 0).contains x3)):FV Tp 205 [(.p (.agg [(aA x0),(aA x1),(aA x2),(aA x3),(aA x4),(aA x5)])),(.rp [(aA dl),(fS sk),(fS dc)] 0)] base (pB r0) []:=by
 subst Ak;have k1:=fk 1 (eM x1) rfl;have k2:=fk 1 (yC dl sk dc h1) rfl;exact FV.fi func205 [k1.o,bT,.x (.agg [(aA dl),(fS sk),(fS dc)]),k2.o,.c (pB ((bC sk 0).contains x3)) []] (gt (FC Tp 22 [(.own 1),(pI x3)] [(1,(.row 3 ((bC sk 0).length) ((bC sk 0).map aA)))] 9 (pB ((bC sk 0).contains x3)) []) (fv (bMs (bC sk 0) x3 h2)) (gc k2 (gr (.agg [(aA dl),(fS sk),(fS dc)]) (gt (0+3≤[(aA dl),(fS sk),(fS dc)].length) (by first | decide | simp) (gc h0 (gc k1 gn))))))
theorem bZu(h0:(decide (x1≤4))=false)(Ak:r0=(x3 == 0)):FV Tp 205 [(.p (.agg [(aA x0),(aA x1),(aA x2),(aA x3),(aA x4),(aA x5)])),(.rp [(aA dl),(fS sk),(fS dc)] 0)] base (pB r0) []:=by
 subst Ak;have k1:=fk 1 (eM x1) rfl;exact FV.fi func205 [k1.o,bF] (gc h0 (gc k1 gn))
def inB(sk:Lqq)(x:List Int):Bool:=if x.getD 1 0≤4 then (bC sk 0).contains (x.getD 3 0) else x.getD 3 0 == 0
abbrev qZ(dl:Int)(sk dc:Lqq):List PV:=[aA dl,.sl sk.length (sk.flatten.map aA),.sl dc.length (dc.flatten.map aA)]
theorem bZv(a b c d e f dl:Int)(sk dc:Lqq)(h:uni 2 sk∧sk.length≤1000){base:Nat}:FV Tp 205 [.p (dcE a b c d e f),.rp (qZ dl sk dc) 0] base (pB (inB sk [a,b,c,d,e,f])) []:=by
 by_cases hb:b≤4
 ·exact bZt (by simpa using hb) h (by simpa [bC] using h.2) (show (if b≤4 then (bC sk 0).contains d else d == 0)=_ by rw [if_pos hb])
 ·exact bZu (by simpa using hb) (show (if b≤4 then (bC sk 0).contains d else d == 0)=_ by rw [if_neg hb])
theorem bSt(Ak:r0=(!(skB [x0,x1]))):FMM Tp 236 [(.p (.agg [(aA x0),(aA x1)])),(.ptr 0 0)] [some (.box 269 [(.fn 200 [] [])])] (pB r0) [some (.box 269 [(.fn 200 [] [])])]:=by
 subst Ak;have k1:=fk 2 (cAd x0 x1) rfl;exact FMM.fi 1 gE func236 [k1.o] (gc k1 gn)
theorem bAd(x0 x1:Int):FMM Tp 236 [(.p (.agg [(aA x0),(aA x1)])),.ptr 0 0] [some (.box 269 [(.fn 200 [] [])])] (pB (!(skB [x0,x1]))) [some (.box 269 [(.fn 200 [] [])])]:=bSt rfl
def gG(l:Lqq)(i:Nat):St:=⟨fr 19 [(0,(.p (fS l))),(1,(.fn 236 [] [(.ptr 0 0)])),(7,(pI (l.length:Int))),(8,(pI (i:Int)))],[some (.box 269 [(.fn 200 [] [])])]⟩
theorem bSu(hl0:aE Tp 1 aIi (gG l 0) (.exit 0) (gG l Ar)):FMM Tp 276 [(.p (fS l)),(.fn 236 [] [(.ptr 0 0)])] [some (.box 269 [(.fn 200 [] [])])] (pI (-1)) [some (.box 269 [(.fn 200 [] [])])]:=FMM.fi 1 gE func276 [hl0.k 6 (gZ dg)] (gc hl0.code gn)
theorem bSv(hl0:aE Tp 1 aIi (gG l 0) .ret (bZ (gG l Ar) [(4,(pI (Ar:Int)))])):FMM Tp 276 [(.p (fS l)),(.fn 236 [] [(.ptr 0 0)])] [some (.box 269 [(.fn 200 [] [])])] (pI (Ar:Int)) [some (.box 269 [(.fn 200 [] [])])]:=FMM.fi 1 gE func276 [hl0.k 6 (gZ dg)] (gc hl0.code gn)
section
variable(h0:(i:Int)<(l.length:Int))(h1:l[i]? = some [Aa,Ab])(h2:uni 2 l)
include h0 h1 h2
theorem aUi(h3:(skB [Aa,Ab])=false):aB Tp 1 aIi (gG l i) .ret (bZ (gG l i) [(4,(pI (i:Int)))]):=have k1:=mq [0] 1 (bAd Aa Ab);aB.fi (gZ cx) [bT,.x (.agg [(aA Aa),(aA Ab)]),k1.o,bT] (gc (cA h3) (gc k1 (gfl h2 h1 (g0 h0))))
theorem aUj(h3:(skB [Aa,Ab])=true)(h4:di i)(Ai:i'=(i+1)):aB Tp 1 aIi (gG l i) .normal (gG l i'):=by
 subst Ai;have k1:=mq [0] 1 (bAd Aa Ab);exact aB.fi (gZ dg) [bT,.x (.agg [(aA Aa),(aA Ab)]),k1.o,bF] (gc h4 (gc (aH h3) (gc k1 (gfl h2 h1 (g0 h0)))))
end
theorem aUk(h0:(l.length:Int)≤(i:Int)):aB Tp 1 aIi (gG l i) (.exit 0) (gG l i):=aB.fi (gZ dg) [bF] (gc (aQ h0) gn)
theorem bSw(l:Lqq)(hl:l.length≤1000)(hu:uni 2 l):FMM Tp 276 [.p (fS l),(.fn 236 [] [(.ptr 0 0)])] [some (.box 269 [(.fn 200 [] [])])] (pI (fC (fun x => !(skB x)) l)) [some (.box 269 [(.fn 200 [] [])])]:=by
 rcases aE.find (P:=Tp) (k:=1) (b:=aIi) (fun i=>gG l i) (fun i _=>bZ (gG l i) [(4,.p (aA (i:Int)))]) (gG l l.length) .ret (.exit 0) (by simp) (by simp) (fun x => !(skB x)) l
  (fun i x hx hp=>by obtain ⟨a,b,rfl⟩:=len2 (hu _ (Br hx));exact aUj (by have:=aY hx;omega) hx hu (by simpa using hp) (aM (by have:=aY hx;omega)) rfl)
  (fun i x hx hp=>by obtain ⟨a,b,rfl⟩:=len2 (hu _ (Br hx));exact aUi (by have:=aY hx;omega) hx hu (by simpa using hp))
  (aUk (l:=l) (i:=l.length) (by omega)) with ⟨i,x,h1,h2,h3,h4⟩ | ⟨h1,h2,h3⟩
 ·rw [dR h2];exact bSv h4
 ·rw [dV h1];exact bSu h3
theorem bSx(h0:l.length≤1000)(h1:uni 2 l)(Ak:r0=(decide ((fC (fun x => !(skB x)) l) ≥ 0))):FMM Tp 235 [(.p (fS l)),(.fn 236 [] [(.ptr 0 0)])] [some (.box 269 [(.fn 200 [] [])])] (pB r0) [some (.box 269 [(.fn 200 [] [])])]:=by
 subst Ak;have k1:=mq [0] 1 (bSw l h0 h1);exact FMM.fi 1 gE func235 [k1.o] (gc k1 gn)
theorem bSy(l:Lqq)(hl:l.length≤1000)(hu:uni 2 l):FMM Tp 235 [.p (fS l),(.fn 236 [] [(.ptr 0 0)])] [some (.box 269 [(.fn 200 [] [])])] (pB (l.any (fun x => !(skB x)))) [some (.box 269 [(.fn 200 [] [])])]:=bSx hl hu (fD _ _).symm
theorem bZw(h0:l.length≤1000)(h1:uni 2 l)(Ak:r0=(!(l.any (fun x => !(skB x))))):FV Tp 199 [(.p (fS l)),(.fn 200 [] [])] base (pB r0) []:=by
 subst Ak;have k1:=mq [0] 1 (bSy l h0 h1);exact FV.fi func199 [k1.o] (gc k1 gn)
theorem uG(l:Lqq)(hl:l.length≤1000)(hu:uni 2 l){base:Nat}:FV Tp 199 [.p (fS l),(.fn 200 [] [])] base (pB (l.all (skB))) []:=bZw hl hu (by rw [List.all_eq_not_any_not])
theorem bSz(Ak:r0=(!(dcB [x0,x1,x2,x3,x4,x5]))):FMM Tp 238 [(.p (.agg [(aA x0),(aA x1),(aA x2),(aA x3),(aA x4),(aA x5)])),(.ptr 0 0)] [some (.box 115 [(.fn 202 [] [])])] (pB r0) [some (.box 115 [(.fn 202 [] [])])]:=by
 subst Ak;have k1:=fk 2 (cAo x0 x1 x2 x3 x4 x5) rfl;exact FMM.fi 1 gE func238 [k1.o] (gc k1 gn)
theorem bAe(x0 x1 x2 x3 x4 x5:Int):FMM Tp 238 [(.p (.agg [(aA x0),(aA x1),(aA x2),(aA x3),(aA x4),(aA x5)])),.ptr 0 0] [some (.box 115 [(.fn 202 [] [])])] (pB (!(dcB [x0,x1,x2,x3,x4,x5]))) [some (.box 115 [(.fn 202 [] [])])]:=bSz rfl
def gH(l:Lqq)(i:Nat):St:=⟨fr 19 [(0,(.p (fS l))),(1,(.fn 238 [] [(.ptr 0 0)])),(7,(pI (l.length:Int))),(8,(pI (i:Int)))],[some (.box 115 [(.fn 202 [] [])])]⟩
theorem bTa(hl0:aE Tp 1 kA (gH l 0) (.exit 0) (gH l Ar)):FMM Tp 277 [(.p (fS l)),(.fn 238 [] [(.ptr 0 0)])] [some (.box 115 [(.fn 202 [] [])])] (pI (-1)) [some (.box 115 [(.fn 202 [] [])])]:=FMM.fi 1 gE func277 [hl0.k 6 (gZ dg)] (gc hl0.code gn)
theorem bTb(hl0:aE Tp 1 kA (gH l 0) .ret (bZ (gH l Ar) [(4,(pI (Ar:Int)))])):FMM Tp 277 [(.p (fS l)),(.fn 238 [] [(.ptr 0 0)])] [some (.box 115 [(.fn 202 [] [])])] (pI (Ar:Int)) [some (.box 115 [(.fn 202 [] [])])]:=FMM.fi 1 gE func277 [hl0.k 6 (gZ dg)] (gc hl0.code gn)
section
variable(h0:(i:Int)<(l.length:Int))(h1:l[i]? = some [Aa,Ab,Ad,Af,Ae,Ag])(h2:uni 6 l)
include h0 h1 h2
theorem aUl(h3:(dcB [Aa,Ab,Ad,Af,Ae,Ag])=false):aB Tp 1 kA (gH l i) .ret (bZ (gH l i) [(4,(pI (i:Int)))]):=have k1:=mq [0] 1 (bAe Aa Ab Ad Af Ae Ag);aB.fi (gZ cx) [bT,.x (.agg [(aA Aa),(aA Ab),(aA Ad),(aA Af),(aA Ae),(aA Ag)]),k1.o,bT] (gc (cA h3) (gc k1 (gfl h2 h1 (g0 h0))))
theorem aUm(h3:(dcB [Aa,Ab,Ad,Af,Ae,Ag])=true)(h4:di i)(Ai:i'=(i+1)):aB Tp 1 kA (gH l i) .normal (gH l i'):=by
 subst Ai;have k1:=mq [0] 1 (bAe Aa Ab Ad Af Ae Ag);exact aB.fi (gZ dg) [bT,.x (.agg [(aA Aa),(aA Ab),(aA Ad),(aA Af),(aA Ae),(aA Ag)]),k1.o,bF] (gc h4 (gc (aH h3) (gc k1 (gfl h2 h1 (g0 h0)))))
end
theorem aUn(h0:(l.length:Int)≤(i:Int)):aB Tp 1 kA (gH l i) (.exit 0) (gH l i):=aB.fi (gZ dg) [bF] (gc (aQ h0) gn)
theorem bTc(l:Lqq)(hl:l.length≤1000)(hu:uni 6 l):FMM Tp 277 [.p (fS l),(.fn 238 [] [(.ptr 0 0)])] [some (.box 115 [(.fn 202 [] [])])] (pI (fC (fun x => !(dcB x)) l)) [some (.box 115 [(.fn 202 [] [])])]:=by
 rcases aE.find (P:=Tp) (k:=1) (b:=kA) (fun i=>gH l i) (fun i _=>bZ (gH l i) [(4,.p (aA (i:Int)))]) (gH l l.length) .ret (.exit 0) (by simp) (by simp) (fun x => !(dcB x)) l
  (fun i x hx hp=>by obtain ⟨a,b,c,d,e,f,rfl⟩:=Bp (hu _ (Br hx));exact aUm (by have:=aY hx;omega) hx hu (by simpa using hp) (aM (by have:=aY hx;omega)) rfl)
  (fun i x hx hp=>by obtain ⟨a,b,c,d,e,f,rfl⟩:=Bp (hu _ (Br hx));exact aUl (by have:=aY hx;omega) hx hu (by simpa using hp))
  (aUn (l:=l) (i:=l.length) (by omega)) with ⟨i,x,h1,h2,h3,h4⟩ | ⟨h1,h2,h3⟩
 ·rw [dR h2];exact bTb h4
 ·rw [dV h1];exact bTa h3
theorem bTd(h0:l.length≤1000)(h1:uni 6 l)(Ak:r0=(decide ((fC (fun x => !(dcB x)) l) ≥ 0))):FMM Tp 237 [(.p (fS l)),(.fn 238 [] [(.ptr 0 0)])] [some (.box 115 [(.fn 202 [] [])])] (pB r0) [some (.box 115 [(.fn 202 [] [])])]:=by
 subst Ak;have k1:=mq [0] 1 (bTc l h0 h1);exact FMM.fi 1 gE func237 [k1.o] (gc k1 gn)
theorem bTe(l:Lqq)(hl:l.length≤1000)(hu:uni 6 l):FMM Tp 237 [.p (fS l),(.fn 238 [] [(.ptr 0 0)])] [some (.box 115 [(.fn 202 [] [])])] (pB (l.any (fun x => !(dcB x)))) [some (.box 115 [(.fn 202 [] [])])]:=bTd hl hu (fD _ _).symm
theorem bZx(h0:l.length≤1000)(h1:uni 6 l)(Ak:r0=(!(l.any (fun x => !(dcB x))))):FV Tp 201 [(.p (fS l)),(.fn 202 [] [])] base (pB r0) []:=by
 subst Ak;have k1:=mq [0] 1 (bTe l h0 h1);exact FV.fi func201 [k1.o] (gc k1 gn)
theorem yB(l:Lqq)(hl:l.length≤1000)(hu:uni 6 l){base:Nat}:FV Tp 201 [.p (fS l),(.fn 202 [] [])] base (pB (l.all (dcB))) []:=bZx hl hu (by rw [List.all_eq_not_any_not])
theorem bTf(h0:inR (x0-1))(Ak:r0=(!(orB [x0,x1,x2,x3,x4,x5]))):FMM Tp 238 [(.p (.agg [(aA x0),(aA x1),(aA x2),(aA x3),(aA x4),(aA x5)])),(.ptr 0 0)] [some (.box 115 [(.fn 206 [] [])])] (pB r0) [some (.box 115 [(.fn 206 [] [])])]:=by
 subst Ak;have k1:=fk 2 (bZs x0 x1 x2 x3 x4 x5 h0) rfl;exact FMM.fi 1 gE func238 [k1.o] (gc k1 gn)
theorem bAf(x0 x1 x2 x3 x4 x5:Int)(he:inR ([x0,x1,x2,x3,x4,x5].getD 0 0-1)):FMM Tp 238 [(.p (.agg [(aA x0),(aA x1),(aA x2),(aA x3),(aA x4),(aA x5)])),.ptr 0 0] [some (.box 115 [(.fn 206 [] [])])] (pB (!(orB [x0,x1,x2,x3,x4,x5]))) [some (.box 115 [(.fn 206 [] [])])]:=bTf he rfl
def gJ(l:Lqq)(i:Nat):St:=⟨fr 19 [(0,(.p (fS l))),(1,(.fn 238 [] [(.ptr 0 0)])),(7,(pI (l.length:Int))),(8,(pI (i:Int)))],[some (.box 115 [(.fn 206 [] [])])]⟩
theorem bTg(hl0:aE Tp 1 kA (gJ l 0) (.exit 0) (gJ l Ar)):FMM Tp 277 [(.p (fS l)),(.fn 238 [] [(.ptr 0 0)])] [some (.box 115 [(.fn 206 [] [])])] (pI (-1)) [some (.box 115 [(.fn 206 [] [])])]:=FMM.fi 1 gE func277 [hl0.k 6 (gZ dg)] (gc hl0.code gn)
theorem bTh(hl0:aE Tp 1 kA (gJ l 0) .ret (bZ (gJ l Ar) [(4,(pI (Ar:Int)))])):FMM Tp 277 [(.p (fS l)),(.fn 238 [] [(.ptr 0 0)])] [some (.box 115 [(.fn 206 [] [])])] (pI (Ar:Int)) [some (.box 115 [(.fn 206 [] [])])]:=FMM.fi 1 gE func277 [hl0.k 6 (gZ dg)] (gc hl0.code gn)
section
variable(h0:(i:Int)<(l.length:Int))(h1:l[i]? = some [Aa,Ab,Ad,Af,Ae,Ag])(h2:uni 6 l)(h3:inR ([Aa,Ab,Ad,Af,Ae,Ag].getD 0 0-1))
include h0 h1 h2 h3
theorem aUo(h4:(orB [Aa,Ab,Ad,Af,Ae,Ag])=false):aB Tp 1 kA (gJ l i) .ret (bZ (gJ l i) [(4,(pI (i:Int)))]):=have k1:=mq [0] 1 (bAf Aa Ab Ad Af Ae Ag h3);aB.fi (gZ cx) [bT,.x (.agg [(aA Aa),(aA Ab),(aA Ad),(aA Af),(aA Ae),(aA Ag)]),k1.o,bT] (gc (cA h4) (gc k1 (gfl h2 h1 (g0 h0))))
theorem aUp(h4:(orB [Aa,Ab,Ad,Af,Ae,Ag])=true)(h5:di i)(Ai:i'=(i+1)):aB Tp 1 kA (gJ l i) .normal (gJ l i'):=by
 subst Ai;have k1:=mq [0] 1 (bAf Aa Ab Ad Af Ae Ag h3);exact aB.fi (gZ dg) [bT,.x (.agg [(aA Aa),(aA Ab),(aA Ad),(aA Af),(aA Ae),(aA Ag)]),k1.o,bF] (gc h5 (gc (aH h4) (gc k1 (gfl h2 h1 (g0 h0)))))
end
theorem aUq(h0:(l.length:Int)≤(i:Int)):aB Tp 1 kA (gJ l i) (.exit 0) (gJ l i):=aB.fi (gZ dg) [bF] (gc (aQ h0) gn)
theorem bTi(l:Lqq)(hl:l.length≤1000)(hu:uni 6 l)(he:∀ x∈l,inR (x.getD 0 0-1)):FMM Tp 277 [.p (fS l),(.fn 238 [] [(.ptr 0 0)])] [some (.box 115 [(.fn 206 [] [])])] (pI (fC (fun x => !(orB x)) l)) [some (.box 115 [(.fn 206 [] [])])]:=by
 rcases aE.find (P:=Tp) (k:=1) (b:=kA) (fun i=>gJ l i) (fun i _=>bZ (gJ l i) [(4,.p (aA (i:Int)))]) (gJ l l.length) .ret (.exit 0) (by simp) (by simp) (fun x => !(orB x)) l
  (fun i x hx hp=>by obtain ⟨a,b,c,d,e,f,rfl⟩:=Bp (hu _ (Br hx));exact aUp (by have:=aY hx;omega) hx hu (he _ (Br hx)) (by simpa using hp) (aM (by have:=aY hx;omega)) rfl)
  (fun i x hx hp=>by obtain ⟨a,b,c,d,e,f,rfl⟩:=Bp (hu _ (Br hx));exact aUo (by have:=aY hx;omega) hx hu (he _ (Br hx)) (by simpa using hp))
  (aUq (l:=l) (i:=l.length) (by omega)) with ⟨i,x,h1,h2,h3,h4⟩ | ⟨h1,h2,h3⟩
 ·rw [dR h2];exact bTh h4
 ·rw [dV h1];exact bTg h3
theorem bTj(h0:l.length≤1000)(h1:uni 6 l)(h2:∀ x∈l,inR (x.getD 0 0-1))(Ak:r0=(decide ((fC (fun x => !(orB x)) l) ≥ 0))):FMM Tp 237 [(.p (fS l)),(.fn 238 [] [(.ptr 0 0)])] [some (.box 115 [(.fn 206 [] [])])] (pB r0) [some (.box 115 [(.fn 206 [] [])])]:=by
 subst Ak;have k1:=mq [0] 1 (bTi l h0 h1 h2);exact FMM.fi 1 gE func237 [k1.o] (gc k1 gn)
theorem bTk(l:Lqq)(hl:l.length≤1000)(hu:uni 6 l)(he:∀ x∈l,inR (x.getD 0 0-1)):FMM Tp 237 [.p (fS l),(.fn 238 [] [(.ptr 0 0)])] [some (.box 115 [(.fn 206 [] [])])] (pB (l.any (fun x => !(orB x)))) [some (.box 115 [(.fn 206 [] [])])]:=bTj hl hu he (fD _ _).symm
theorem bZy(h0:l.length≤1000)(h1:uni 6 l)(h2:∀ x∈l,inR (x.getD 0 0-1))(Ak:r0=(!(l.any (fun x => !(orB x))))):FV Tp 201 [(.p (fS l)),(.fn 206 [] [])] base (pB r0) []:=by
 subst Ak;have k1:=mq [0] 1 (bTk l h0 h1 h2);exact FV.fi func201 [k1.o] (gc k1 gn)
theorem bMt(l:Lqq)(hl:l.length≤1000)(hu:uni 6 l)(he:∀ x∈l,inR (x.getD 0 0-1)){base:Nat}:FV Tp 201 [.p (fS l),(.fn 206 [] [])] base (pB (l.all (orB))) []:=bZy hl hu he (by rw [List.all_eq_not_any_not])
theorem bTl(h0:uni 2 sk∧sk.length≤1000)(Ak:r0=(!(inB sk [x0,x1,x2,x3,x4,x5]))):FMM Tp 238 [(.p (.agg [(aA x0),(aA x1),(aA x2),(aA x3),(aA x4),(aA x5)])),(.ptr 0 0)] [some (.box 115 [(.fn 205 [] [(.rp [(aA dl),(fS sk),(fS dc)] 0)])])] (pB r0) [some (.box 115 [(.fn 205 [] [(.rp [(aA dl),(fS sk),(fS dc)] 0)])])]:=by
 subst Ak;have k1:=fk 2 (bZv x0 x1 x2 x3 x4 x5 dl sk dc h0) rfl;exact FMM.fi 1 gE func238 [k1.o] (gc k1 gn)
theorem bAg(x0 x1 x2 x3 x4 x5 dl:Int)(sk dc:Lqq)(he:uni 2 sk∧sk.length≤1000):FMM Tp 238 [(.p (.agg [(aA x0),(aA x1),(aA x2),(aA x3),(aA x4),(aA x5)])),.ptr 0 0] [some (.box 115 [(.fn 205 [] [(.rp [(aA dl),(fS sk),(fS dc)] 0)])])] (pB (!(inB sk [x0,x1,x2,x3,x4,x5]))) [some (.box 115 [(.fn 205 [] [(.rp [(aA dl),(fS sk),(fS dc)] 0)])])]:=bTl he rfl
def gK(l:Lqq)(dl:Int)(sk dc:Lqq)(i:Nat):St:=⟨fr 19 [(0,(.p (fS l))),(1,(.fn 238 [] [(.ptr 0 0)])),(7,(pI (l.length:Int))),(8,(pI (i:Int)))],[some (.box 115 [(.fn 205 [] [(.rp [(aA dl),(fS sk),(fS dc)] 0)])])]⟩
theorem bTm(hl0:aE Tp 1 kA (gK l dl sk dc 0) (.exit 0) (gK l dl sk dc Ar)):FMM Tp 277 [(.p (fS l)),(.fn 238 [] [(.ptr 0 0)])] [some (.box 115 [(.fn 205 [] [(.rp [(aA dl),(fS sk),(fS dc)] 0)])])] (pI (-1)) [some (.box 115 [(.fn 205 [] [(.rp [(aA dl),(fS sk),(fS dc)] 0)])])]:=FMM.fi 1 gE func277 [hl0.k 6 (gZ dg)] (gc hl0.code gn)
theorem bTn(hl0:aE Tp 1 kA (gK l dl sk dc 0) .ret (bZ (gK l dl sk dc Ar) [(4,(pI (Ar:Int)))])):FMM Tp 277 [(.p (fS l)),(.fn 238 [] [(.ptr 0 0)])] [some (.box 115 [(.fn 205 [] [(.rp [(aA dl),(fS sk),(fS dc)] 0)])])] (pI (Ar:Int)) [some (.box 115 [(.fn 205 [] [(.rp [(aA dl),(fS sk),(fS dc)] 0)])])]:=FMM.fi 1 gE func277 [hl0.k 6 (gZ dg)] (gc hl0.code gn)
section
variable(h0:(i:Int)<(l.length:Int))(h1:l[i]? = some [Aa,Ab,Ad,Af,Ae,Ag])(h2:uni 6 l)(h3:uni 2 sk∧sk.length≤1000)
include h0 h1 h2 h3
theorem aUr(h4:(inB sk [Aa,Ab,Ad,Af,Ae,Ag])=false):aB Tp 1 kA (gK l dl sk dc i) .ret (bZ (gK l dl sk dc i) [(4,(pI (i:Int)))]):=have k1:=mq [0] 1 (bAg Aa Ab Ad Af Ae Ag dl sk dc h3);aB.fi (gZ cx) [bT,.x (.agg [(aA Aa),(aA Ab),(aA Ad),(aA Af),(aA Ae),(aA Ag)]),k1.o,bT] (gc (cA h4) (gc k1 (gfl h2 h1 (g0 h0))))
theorem aUs(h4:(inB sk [Aa,Ab,Ad,Af,Ae,Ag])=true)(h5:di i)(Ai:i'=(i+1)):aB Tp 1 kA (gK l dl sk dc i) .normal (gK l dl sk dc i'):=by
 subst Ai;have k1:=mq [0] 1 (bAg Aa Ab Ad Af Ae Ag dl sk dc h3);exact aB.fi (gZ dg) [bT,.x (.agg [(aA Aa),(aA Ab),(aA Ad),(aA Af),(aA Ae),(aA Ag)]),k1.o,bF] (gc h5 (gc (aH h4) (gc k1 (gfl h2 h1 (g0 h0)))))
end
theorem aUt(h0:(l.length:Int)≤(i:Int)):aB Tp 1 kA (gK l dl sk dc i) (.exit 0) (gK l dl sk dc i):=aB.fi (gZ dg) [bF] (gc (aQ h0) gn)
theorem bTo(l:Lqq)(dl:Int)(sk dc:Lqq)(hl:l.length≤1000)(hu:uni 6 l)(he:∀ x∈l,uni 2 sk∧sk.length≤1000):FMM Tp 277 [.p (fS l),(.fn 238 [] [(.ptr 0 0)])] [some (.box 115 [(.fn 205 [] [(.rp [(aA dl),(fS sk),(fS dc)] 0)])])] (pI (fC (fun x => !(inB sk x)) l)) [some (.box 115 [(.fn 205 [] [(.rp [(aA dl),(fS sk),(fS dc)] 0)])])]:=by
 rcases aE.find (P:=Tp) (k:=1) (b:=kA) (fun i=>gK l dl sk dc i) (fun i _=>bZ (gK l dl sk dc i) [(4,.p (aA (i:Int)))]) (gK l dl sk dc l.length) .ret (.exit 0) (by simp) (by simp) (fun x => !(inB sk x)) l
  (fun i x hx hp=>by obtain ⟨a,b,c,d,e,f,rfl⟩:=Bp (hu _ (Br hx));exact aUs (by have:=aY hx;omega) hx hu (he _ (Br hx)) (by simpa using hp) (aM (by have:=aY hx;omega)) rfl)
  (fun i x hx hp=>by obtain ⟨a,b,c,d,e,f,rfl⟩:=Bp (hu _ (Br hx));exact aUr (by have:=aY hx;omega) hx hu (he _ (Br hx)) (by simpa using hp))
  (aUt (l:=l) (i:=l.length) (by omega)) with ⟨i,x,h1,h2,h3,h4⟩ | ⟨h1,h2,h3⟩
 ·rw [dR h2];exact bTn h4
 ·rw [dV h1];exact bTm h3
theorem bTp(h0:l.length≤1000)(h1:uni 6 l)(h2:∀ x∈l,uni 2 sk∧sk.length≤1000)(Ak:r0=(decide ((fC (fun x => !(inB sk x)) l) ≥ 0))):FMM Tp 237 [(.p (fS l)),(.fn 238 [] [(.ptr 0 0)])] [some (.box 115 [(.fn 205 [] [(.rp [(aA dl),(fS sk),(fS dc)] 0)])])] (pB r0) [some (.box 115 [(.fn 205 [] [(.rp [(aA dl),(fS sk),(fS dc)] 0)])])]:=by
 subst Ak;have k1:=mq [0] 1 (bTo l dl sk dc h0 h1 h2);exact FMM.fi 1 gE func237 [k1.o] (gc k1 gn)
theorem bTq(l:Lqq)(dl:Int)(sk dc:Lqq)(hl:l.length≤1000)(hu:uni 6 l)(he:∀ x∈l,uni 2 sk∧sk.length≤1000):FMM Tp 237 [.p (fS l),(.fn 238 [] [(.ptr 0 0)])] [some (.box 115 [(.fn 205 [] [(.rp [(aA dl),(fS sk),(fS dc)] 0)])])] (pB (l.any (fun x => !(inB sk x)))) [some (.box 115 [(.fn 205 [] [(.rp [(aA dl),(fS sk),(fS dc)] 0)])])]:=bTp hl hu he (fD _ _).symm
theorem bZz(h0:l.length≤1000)(h1:uni 6 l)(h2:∀ x∈l,uni 2 sk∧sk.length≤1000)(Ak:r0=(!(l.any (fun x => !(inB sk x))))):FV Tp 201 [(.p (fS l)),(.fn 205 [] [(.rp [(aA dl),(fS sk),(fS dc)] 0)])] base (pB r0) []:=by
 subst Ak;have k1:=mq [0] 1 (bTq l dl sk dc h0 h1 h2);exact FV.fi func201 [k1.o] (gc k1 gn)
theorem aUu(l:Lqq)(dl:Int)(sk dc:Lqq)(hl:l.length≤1000)(hu:uni 6 l)(he:∀ x∈l,uni 2 sk∧sk.length≤1000){base:Nat}:FV Tp 201 [.p (fS l),(.fn 205 [] [(.rp [(aA dl),(fS sk),(fS dc)] 0)])] base (pB (l.all (inB sk))) []:=bZz hl hu he (by rw [List.all_eq_not_any_not])
theorem chk_p0(h0:(within (sk.length:Int) 1 30)=false):FV Tp 152 [(.p (.agg [(aA dl),(fS sk),(fS dc)]))] base (pI 2) []:=have k1:=fk 1 (bS (sk.length:Int) 1 30) rfl;FV.fi func152 ([k1.o]++rT 5) (B7 (cA h0) (gc k1 gn))
section
variable(h0:(within (sk.length:Int) 1 30)=true)
include h0
theorem chk_p1(h1:(40:Int)<(dc.length:Int)):FV Tp 152 [(.p (.agg [(aA dl),(fS sk),(fS dc)]))] base (pI 2) []:=have k1:=fk 1 (bS (sk.length:Int) 1 30) rfl;FV.fi func152 ([k1.o]++rF 5++[bT]) (gc (bD h1) (B7 (aH h0) (gc k1 gn)))
theorem chk_p2(h1:(dc.length:Int)≤40)(h2:(within dl 0 10000)=false):FV Tp 152 [(.p (.agg [(aA dl),(fS sk),(fS dc)]))] base (pI 3) []:=have k1:=fk 1 (bS (sk.length:Int) 1 30) rfl;have k2:=fk 1 (bS dl 0 10000) rfl;FV.fi func152 ([k1.o]++rF 6++[k2.o]++rT 5) (B7 (cA h2) (gc k2 (gc (aQ h1) (B7 (aH h0) (gc k1 gn)))))
end
section
variable(h0:(within (sk.length:Int) 1 30)=true)(h1:(dc.length:Int)≤40)(h2:(within dl 0 10000)=true)(h3:sk.length≤1000)(h4:uni 2 sk)
include h0 h1 h2 h3 h4
theorem chk_p3(h5:(sk.all (skB))=false):FV Tp 152 [(.p (.agg [(aA dl),(fS sk),(fS dc)]))] base (pI 3) []:=have k1:=fk 1 (bS (sk.length:Int) 1 30) rfl;have k2:=fk 1 (bS dl 0 10000) rfl;have k3:=fk 1 (uG sk h3 h4) rfl;FV.fi func152 ([k1.o]++rF 6++[k2.o,bF,bF,bF,k3.o,bF,bF]++rT 5) (B7 (cA h5) (Ap (aH h2) (gc k3 (Aq (aH h2) (gc k2 (gc (aQ h1) (B7 (aH h0) (gc k1 gn))))))))
theorem chk_p4(h5:(sk.all (skB))=true)(h6:dc.length≤1000)(h7:uni 6 dc)(h8:(dc.all (dcB))=false):FV Tp 152 [(.p (.agg [(aA dl),(fS sk),(fS dc)]))] base (pI 3) []:=have k1:=fk 1 (bS (sk.length:Int) 1 30) rfl;have k2:=fk 1 (bS dl 0 10000) rfl;have k3:=fk 1 (uG sk h3 h4) rfl;have k4:=fk 1 (yB dc h6 h7) rfl;FV.fi func152 ([k1.o]++rF 6++[k2.o,bF,bF,bF,k3.o]++rF 5++[k4.o,bF,bF,bT]) (gc (cA h8) (Ap (aH h5) (gc k4 (Aq (aH h5) (Ap (aH h2) (gc k3 (Aq (aH h2) (gc k2 (gc (aQ h1) (B7 (aH h0) (gc k1 gn)))))))))))
theorem chk_p5(h5:(sk.all (skB))=true)(h6:dc.length≤1000)(h7:uni 6 dc)(h8:(dc.all (dcB))=true)(h9:uni 2 sk∧sk.length≤1000)(A5:(bC sk 0).length≤1000)(Cb:∀ x∈(bC sk 0),-1000000≤x∧x≤1000000)(Bu:(!decide (bC sk 0).Nodup)=true):FV Tp 152 [(.p (.agg [(aA dl),(fS sk),(fS dc)]))] base (pI 5) []:=have k1:=fk 1 (bS (sk.length:Int) 1 30) rfl;have k2:=fk 1 (bS dl 0 10000) rfl;have k3:=fk 1 (uG sk h3 h4) rfl;have k4:=fk 1 (yB dc h6 h7) rfl;have k5:=fk 1 (yC dl sk dc h9) rfl;FV.fi func152 ([k1.o]++rF 6++[k2.o,bF,bF,bF,k3.o]++rF 5++[k4.o,bF,bF,bF,k5.o,.c (pB (!decide (bC sk 0).Nodup)) [],bT,bT,bT,bT]) (Bf Bu (gt (FC Tp 203 [(.own 1)] [(1,(.row 3 ((bC sk 0).length) ((bC sk 0).map aA)))] 2 (pB (!decide (bC sk 0).Nodup)) []) (fv (wB (bC sk 0) A5 Cb)) (gc k5 (gc (aH h8) (Ap (aH h5) (gc k4 (Aq (aH h5) (Ap (aH h2) (gc k3 (Aq (aH h2) (gc k2 (gc (aQ h1) (B7 (aH h0) (gc k1 gn))))))))))))))
end
section
variable(h0:(within (sk.length:Int) 1 30)=true)(h1:(dc.length:Int)≤40)(h2:(within dl 0 10000)=true)(h3:sk.length≤1000)(h4:uni 2 sk)(h5:(sk.all (skB))=true)(h6:dc.length≤1000)(h7:uni 6 dc)(h8:(dc.all (dcB))=true)(h9:uni 2 sk∧sk.length≤1000)(A5:(bC sk 0).length≤1000)(Cb:∀ x∈(bC sk 0),-1000000≤x∧x≤1000000)(Bu:(!decide (bC sk 0).Nodup)=false)(Dd:uni 6 dc∧dc.length≤1000)(Dq:(bC dc 0).length≤1000)(G3:∀ x∈(bC dc 0),-1000000≤x∧x≤1000000)
include h0 h1 h2 h3 h4 h5 h6 h7 h8 h9 A5 Cb Bu Dd Dq G3
theorem chk_p6(Gk:(!decide (bC dc 0).Nodup)=true):FV Tp 152 [(.p (.agg [(aA dl),(fS sk),(fS dc)]))] base (pI 5) []:=have k1:=fk 1 (bS (sk.length:Int) 1 30) rfl;have k2:=fk 1 (bS dl 0 10000) rfl;have k3:=fk 1 (uG sk h3 h4) rfl;have k4:=fk 1 (yB dc h6 h7) rfl;have k5:=fk 1 (yC dl sk dc h9) rfl;have k6:=fk 2 (aKu dl sk dc Dd) rfl;FV.fi func152 ([k1.o]++rF 6++[k2.o,bF,bF,bF,k3.o]++rF 5++[k4.o,bF,bF,bF,k5.o,.c (pB (!decide (bC sk 0).Nodup)) [],bF,bF,k6.o,bF,.c (pB (!decide (bC dc 0).Nodup)) [],bF,bT]) (gc Gk (gc Bu (gt (FC Tp 203 [(.own 2)] [(2,(.row 3 ((bC dc 0).length) ((bC dc 0).map aA)))] 3 (pB (!decide (bC dc 0).Nodup)) []) (fv (wB (bC dc 0) Dq G3)) (gc Bu (gc k6 (Ap Bu (gt (FC Tp 203 [(.own 1)] [(1,(.row 3 ((bC sk 0).length) ((bC sk 0).map aA)))] 2 (pB (!decide (bC sk 0).Nodup)) []) (fv (wB (bC sk 0) A5 Cb)) (gc k5 (gc (aH h8) (Ap (aH h5) (gc k4 (Aq (aH h5) (Ap (aH h2) (gc k3 (Aq (aH h2) (gc k2 (gc (aQ h1) (B7 (aH h0) (gc k1 gn)))))))))))))))))))
theorem chk_p7(Gk:(!decide (bC dc 0).Nodup)=false)(Hr:∀ x∈dc,uni 2 sk∧sk.length≤1000)(Ki:(dc.all (inB sk))=false):FV Tp 152 [(.p (.agg [(aA dl),(fS sk),(fS dc)]))] base (pI 1) []:=have k1:=fk 1 (bS (sk.length:Int) 1 30) rfl;have k2:=fk 1 (bS dl 0 10000) rfl;have k3:=fk 1 (uG sk h3 h4) rfl;have k4:=fk 1 (yB dc h6 h7) rfl;have k5:=fk 1 (yC dl sk dc h9) rfl;have k6:=fk 2 (aKu dl sk dc Dd) rfl;have k7:=fk 2 (aUu dc dl sk dc h6 h7 Hr) rfl;FV.fi func152 ([k1.o]++rF 6++[k2.o,bF,bF,bF,k3.o]++rF 5++[k4.o,bF,bF,bF,k5.o,.c (pB (!decide (bC sk 0).Nodup)) [],bF,bF,k6.o,bF,.c (pB (!decide (bC dc 0).Nodup)) [],bF,bF,.g 1 ⟨[],[1,2],[0],[]⟩,.x (fS dc),k7.o,bT]) (gc (cA Ki) (gc k7 (gr (fS dc) (gc Gk (gc Bu (gt (FC Tp 203 [(.own 2)] [(2,(.row 3 ((bC dc 0).length) ((bC dc 0).map aA)))] 3 (pB (!decide (bC dc 0).Nodup)) []) (fv (wB (bC dc 0) Dq G3)) (gc Bu (gc k6 (Ap Bu (gt (FC Tp 203 [(.own 1)] [(1,(.row 3 ((bC sk 0).length) ((bC sk 0).map aA)))] 2 (pB (!decide (bC sk 0).Nodup)) []) (fv (wB (bC sk 0) A5 Cb)) (gc k5 (gc (aH h8) (Ap (aH h5) (gc k4 (Aq (aH h5) (Ap (aH h2) (gc k3 (Aq (aH h2) (gc k2 (gc (aQ h1) (B7 (aH h0) (gc k1 gn))))))))))))))))))))))
theorem chk_p8(Gk:(!decide (bC dc 0).Nodup)=false)(Hr:∀ x∈dc,uni 2 sk∧sk.length≤1000)(Ki:(dc.all (inB sk))=true)(Kj:∀ x∈dc,inR (x.getD 0 0-1))(Kk:(dc.all (orB))=false):FV Tp 152 [(.p (.agg [(aA dl),(fS sk),(fS dc)]))] base (pI 4) []:=have k1:=fk 1 (bS (sk.length:Int) 1 30) rfl;have k2:=fk 1 (bS dl 0 10000) rfl;have k3:=fk 1 (uG sk h3 h4) rfl;have k4:=fk 1 (yB dc h6 h7) rfl;have k5:=fk 1 (yC dl sk dc h9) rfl;have k6:=fk 2 (aKu dl sk dc Dd) rfl;have k7:=fk 2 (aUu dc dl sk dc h6 h7 Hr) rfl;have k8:=fk 2 (bMt dc h6 h7 Kj) rfl;FV.fi func152 ([k1.o]++rF 6++[k2.o,bF,bF,bF,k3.o]++rF 5++[k4.o,bF,bF,bF,k5.o,.c (pB (!decide (bC sk 0).Nodup)) [],bF,bF,k6.o,bF,.c (pB (!decide (bC dc 0).Nodup)) [],bF,bF,.g 1 ⟨[],[1,2],[0],[]⟩,.x (fS dc),k7.o,bF,.x (fS dc),k8.o,bT]) (gc (cA Kk) (gc k8 (gr (fS dc) (gc (aH Ki) (gc k7 (gr (fS dc) (gc Gk (gc Bu (gt (FC Tp 203 [(.own 2)] [(2,(.row 3 ((bC dc 0).length) ((bC dc 0).map aA)))] 3 (pB (!decide (bC dc 0).Nodup)) []) (fv (wB (bC dc 0) Dq G3)) (gc Bu (gc k6 (Ap Bu (gt (FC Tp 203 [(.own 1)] [(1,(.row 3 ((bC sk 0).length) ((bC sk 0).map aA)))] 2 (pB (!decide (bC sk 0).Nodup)) []) (fv (wB (bC sk 0) A5 Cb)) (gc k5 (gc (aH h8) (Ap (aH h5) (gc k4 (Aq (aH h5) (Ap (aH h2) (gc k3 (Aq (aH h2) (gc k2 (gc (aQ h1) (B7 (aH h0) (gc k1 gn)))))))))))))))))))))))))
theorem chk_p9(Gk:(!decide (bC dc 0).Nodup)=false)(Hr:∀ x∈dc,uni 2 sk∧sk.length≤1000)(Ki:(dc.all (inB sk))=true)(Kj:∀ x∈dc,inR (x.getD 0 0-1))(Kk:(dc.all (orB))=true):FV Tp 152 [(.p (.agg [(aA dl),(fS sk),(fS dc)]))] base (pI 0) []:=have k1:=fk 1 (bS (sk.length:Int) 1 30) rfl;have k2:=fk 1 (bS dl 0 10000) rfl;have k3:=fk 1 (uG sk h3 h4) rfl;have k4:=fk 1 (yB dc h6 h7) rfl;have k5:=fk 1 (yC dl sk dc h9) rfl;have k6:=fk 2 (aKu dl sk dc Dd) rfl;have k7:=fk 2 (aUu dc dl sk dc h6 h7 Hr) rfl;have k8:=fk 2 (bMt dc h6 h7 Kj) rfl;FV.fi func152 ([k1.o]++rF 6++[k2.o,bF,bF,bF,k3.o]++rF 5++[k4.o,bF,bF,bF,k5.o,.c (pB (!decide (bC sk 0).Nodup)) [],bF,bF,k6.o,bF,.c (pB (!decide (bC dc 0).Nodup)) [],bF,bF,.g 1 ⟨[],[1,2],[0],[]⟩,.x (fS dc),k7.o,bF,.x (fS dc),k8.o,bF]) (gc (aH Kk) (gc k8 (gr (fS dc) (gc (aH Ki) (gc k7 (gr (fS dc) (gc Gk (gc Bu (gt (FC Tp 203 [(.own 2)] [(2,(.row 3 ((bC dc 0).length) ((bC dc 0).map aA)))] 3 (pB (!decide (bC dc 0).Nodup)) []) (fv (wB (bC dc 0) Dq G3)) (gc Bu (gc k6 (Ap Bu (gt (FC Tp 203 [(.own 1)] [(1,(.row 3 ((bC sk 0).length) ((bC sk 0).map aA)))] 2 (pB (!decide (bC sk 0).Nodup)) []) (fv (wB (bC sk 0) A5 Cb)) (gc k5 (gc (aH h8) (Ap (aH h5) (gc k4 (Aq (aH h5) (Ap (aH h2) (gc k3 (Aq (aH h2) (gc k2 (gc (aQ h1) (B7 (aH h0) (gc k1 gn)))))))))))))))))))))))))
end
end
section

def bMq(dl:Int)(sk dc:Lqq):Int :=
 if within (sk.length:Int) 1 30=false∨(40:Int)<(dc.length:Int) then 2
 else if within dl 0 10000=false∨sk.all skB=false∨dc.all dcB=false then 3
 else if ¬ (bC sk 0).Nodup∨¬ (bC dc 0).Nodup then 5
 else if dc.all (inB sk)=false then 1
 else if dc.all orB=false then 4 else 0

structure fQ (dl:Int) (sk dc:Lqq):Prop where
 us:uni 2 sk
 ud:uni 6 dc
 len:1≤sk.length∧sk.length≤30
 len2:dc.length≤40
 hdl:0≤dl∧dl≤10000
 hsk:∀ x∈sk,skB x=true
 hdc:∀ x∈dc,dcB x=true
 ns:(bC sk 0).Nodup
 nd:(bC dc 0).Nodup
 inb:∀ x∈dc,inB sk x=true
 ord:∀ x∈dc,orB x=true

theorem within_iff{n lo hi:Int}:within n lo hi=true↔lo≤n∧n≤hi:=by simp [within]
theorem bAa(f:Lqq)(j:Nat):(bC f j).length=f.length:=by simp [bC]
theorem bAb{f:Lqq}{j:Nat}{n:Int}(h:n∈bC f j):∃ x∈f,x.getD j 0=n:=by simpa [bC] using h
theorem bAc{x:List Int}:skB x=true↔(1≤x.getD 0 0∧x.getD 0 0≤999) ∧ -1≤x.getD 1 0∧x.getD 1 0≤360000:=by
 unfold skB;rw [Bw,within_iff,within_iff]
theorem jM{x:List Int}:dcB x=true↔(1≤x.getD 0 0∧x.getD 0 0≤9999)∧(0≤x.getD 1 0∧x.getD 1 0≤9)∧(0≤x.getD 2 0∧x.getD 2 0≤10000)∧0≤x.getD 4 0∧x.getD 4 0≤kW (x.getD 1 0):=by
 unfold dcB;rw [Bw,Bw,Bw,within_iff,within_iff,within_iff,within_iff]

theorem bZm(dl:Int)(sk dc:Lqq)(us:uni 2 sk)(ud:uni 6 dc){base:Nat}:FV Tp 152 [.p (.agg (qZ dl sk dc))] base (.p (aA (bMq dl sk dc))) []:=by
 unfold bMq;cases h1:within (sk.length:Int) 1 30 with
 | false=>rw [if_pos (.inl rfl)];exact chk_p0 h1
 | true =>
 have l1:=(within_iff.1 h1)
 by_cases h2:(40:Int)<(dc.length:Int)
 ·rw [if_pos (.inr h2)];exact chk_p1 h1 h2
 rw [if_neg (by simp [h2])]
 have Gi:(dc.length:Int)≤40:=by omega
 cases h3:within dl 0 10000 with
 | false=>rw [if_pos (.inl rfl)];exact chk_p2 h1 Gi h3
 | true =>
 have hs:sk.length≤1000:=by omega
 have hd:dc.length≤1000:=by omega
 cases h4:sk.all skB with
 | false=>rw [if_pos (.inr (.inl rfl))];exact chk_p3 h1 Gi h3 hs us h4
 | true =>
 cases h5:dc.all dcB with
 | false=>rw [if_pos (.inr (.inr rfl))];exact chk_p4 h1 Gi h3 hs us h4 hd ud h5
 | true =>
 rw [if_neg (by simp)]
 have b1:∀ x∈bC sk 0,-1000000≤x∧x≤1000000:=fun n hn=>by
  obtain ⟨x,hx,rfl⟩:=bAb hn;have:=bAc.1 (fL.1 h4 x hx);omega
 have b2:∀ x∈bC dc 0,-1000000≤x∧x≤1000000:=fun n hn=>by
  obtain ⟨x,hx,rfl⟩:=bAb hn;have:=jM.1 (fL.1 h5 x hx);omega
 have b3:∀ x∈dc,inR (x.getD 0 0-1):=fun x hx=>by
  have:=jM.1 (fL.1 h5 x hx);unfold inR;omega
 have c1:(bC sk 0).length≤1000:=by rw [bAa];exact hs
 have c2:(bC dc 0).length≤1000:=by rw [bAa];exact hd
 by_cases h6:(bC sk 0).Nodup
 ·by_cases h7:(bC dc 0).Nodup
  ·rw [if_neg (by simp [h6,h7])]
   cases h8:dc.all (inB sk) with
   | false=>rw [if_pos rfl];exact chk_p7 h1 Gi h3 hs us h4 hd ud h5 ⟨us,hs⟩ c1 b1 (by simp [h6]) ⟨ud,hd⟩ c2 b2 (by simp [h7]) (fun _ _=>⟨us,hs⟩) h8
   | true =>
    rw [if_neg (by simp)]
    cases h9:dc.all orB with
    | false=>rw [if_pos rfl];exact chk_p8 h1 Gi h3 hs us h4 hd ud h5 ⟨us,hs⟩ c1 b1 (by simp [h6]) ⟨ud,hd⟩ c2 b2 (by simp [h7]) (fun _ _=>⟨us,hs⟩) h8 b3 h9
    | true=>rw [if_neg (by simp)];exact chk_p9 h1 Gi h3 hs us h4 hd ud h5 ⟨us,hs⟩ c1 b1 (by simp [h6]) ⟨ud,hd⟩ c2 b2 (by simp [h7]) (fun _ _=>⟨us,hs⟩) h8 b3 h9
  ·rw [if_pos (.inr h7)];exact chk_p6 h1 Gi h3 hs us h4 hd ud h5 ⟨us,hs⟩ c1 b1 (by simp [h6]) ⟨ud,hd⟩ c2 b2 (by simp [h7])
 ·rw [if_pos (.inl h6)];exact chk_p5 h1 Gi h3 hs us h4 hd ud h5 ⟨us,hs⟩ c1 b1 (by simp [h6])

theorem bSs{dl:Int}{sk dc:Lqq}(us:uni 2 sk)(ud:uni 6 dc):bMq dl sk dc=0↔fQ dl sk dc:=by
 unfold bMq;constructor
 ·intro h
  split at h
  ·simp at h
  rename_i h1
  split at h
  ·simp at h
  rename_i h2
  split at h
  ·simp at h
  rename_i h3
  split at h
  ·simp at h
  rename_i h4
  split at h
  ·simp at h
  rename_i h5;simp only [not_or,Bool.not_eq_false,Int.not_lt,Classical.not_not] at h1 h2 h3 h4 h5
  have:=within_iff.1 h1.1;exact ⟨us,ud,by omega,by omega,within_iff.1 h2.1,fun x hx=>fL.1 h2.2.1 x hx,fun x hx=>fL.1 h2.2.2 x hx,h3.1,h3.2,fun x hx=>fL.1 h4 x hx,fun x hx=>fL.1 h5 x hx⟩
 ·intro h
  have e1:within (sk.length:Int) 1 30=true:=within_iff.2 (by have:=h.len;omega)
  have e2:within dl 0 10000=true:=within_iff.2 h.hdl;have e3:sk.all skB=true:=fL.2 h.hsk;have e4:dc.all dcB=true:=fL.2 h.hdc;have e5:dc.all (inB sk)=true:=fL.2 h.inb;have e6:dc.all orB=true:=fL.2 h.ord;have:=h.len2;rw [if_neg (by rw [e1];simp;omega),if_neg (by rw [e2,e3,e4];simp),if_neg (by simp [h.ns,h.nd]),if_neg (by rw [e5];simp),if_neg (by rw [e6];simp)]
end
end KV
end Go.Proofs
section
namespace Go.Proofs
open Go.RowKit Go.Lib Go.Sort
namespace KV
open Tryz

theorem aUh{P:Program}{C:Cx}{w w':World}{ty n b:Nat}{cs Be:List PV}{arr El:Array Value}(hM:aP P C [some (.row ty n cs)] w)(hι:C.ι 0=some b)(hb:w.heap[b]? = some (.cells arr ty (0,0)))
  (hos:w'.os=w.os) (htp:w'.tape=w.tape) (hou:w'.output=w.output) (hsz:w.heap.size≤w'.heap.size) (hot:∀ b',b'<w.heap.size→b'≠b→w'.heap[b']? = w.heap[b']?)
  (Al:w'.heap[b]? = some (.cells El ty (0,0))) (hsa:El.size=arr.size) (hl:Be.length=cs.length) (hr:∀ j (h:j<Be.length),bQ C.F w' Be[j] (El.getD j undef)) (ho:∀ j,j<Be.length→(El.getD j undef).oneCell'=true) :
  Fr C [some (.row ty n cs)] w C [some (.row ty n Be)] w'∧aP P C [some (.row ty n Be)] w':=by
 have Ii:∀ (id:Nat) (o:AO),([some (.row ty n cs)]:Mem)[id]? = some (some o)→id=0∧o = .row ty n cs:=fun id o h=>by
  cases id with
  | zero=>simp at h;exact ⟨rfl,h.symm⟩
  | succ i=>simp at h
 have Cy:∀ (id:Nat) (o:AO),([some (.row ty n Be)]:Mem)[id]? = some (some o)→id=0∧o = .row ty n Be:=fun id o h=>by
  cases id with
  | zero=>simp at h;exact ⟨rfl,h.symm⟩
  | succ i=>simp at h
 refine ⟨⟨hos,htp,hou,hsz,fun b' h1 h2=>hot b' h1 fun he => ?_,fun id o hm => ?_,fun id o hm Cc n' Eg hx => ?_,fun id o hm o' hx hl => ?_,fun id o b' hm hl hbb => ?_,fun _ h=>h,fun _ h => .inl h⟩,
  ⟨fun id Cc n' Eg hm => ?_,fun id Cc Eg hm => ?_,fun id es cl hm => ?_,fun id E3 o o' b' h1 _ h2 _ _ _ => ?_,fun id o b' hm hl hbb => ?_,fun b' hf=>fK (hM.Fs b' hf) hsz,fun id o b' hm hl hbb => ?_⟩⟩
 ·subst he;exact h2 0 _ rfl rfl hι
 ·obtain ⟨rfl,rfl⟩:=Ii id o hm
  exact ⟨⟨_,rfl⟩,rfl,rfl⟩
 ·obtain ⟨rfl,rfl⟩:=Ii id o hm
  obtain ⟨_,he⟩:=Cy _ _ hx;cases he;exact ⟨cs,rfl⟩
 ·obtain ⟨rfl,rfl⟩:=Ii id o hm
  rfl
 ·obtain ⟨rfl,rfl⟩:=Cy id o hm
  exact .inr ⟨0,_,rfl,rfl,hbb⟩
 ·obtain ⟨rfl,he⟩:=Cy id _ hm
  cases he
  rcases hM.row 0 _ _ _ rfl with ⟨hn,_⟩ | ⟨b',Tg,i,q1,q2,q3,q4,q5,q6,q7,q8⟩
  ·rw [hι] at hn;cases hn
  ·rw [hι] at q1;cases q1
   rw [hb] at q2;cases q2
   exact .inr ⟨b,El,i,hι,Al,q3,by rw [hsa,q4],by rw [hl,q5],q6,q7,hr,ho⟩
 ·obtain ⟨_,he⟩:=Cy id _ hm;cases he
 ·obtain ⟨_,he⟩:=Cy id _ hm;cases he
 ·obtain ⟨rfl,_⟩:=Cy id _ h1
  obtain ⟨rfl,_⟩:=Cy E3 _ h2;rfl
 ·obtain ⟨rfl,_⟩:=Cy id _ hm
  exact hM.nF 0 _ b' rfl rfl hbb
 ·obtain ⟨rfl,_⟩:=Cy id _ hm
  exact fK (hM.lt 0 _ b' rfl rfl hbb) hsz

def mJ(k:Nat)(x:List Int):List Value:=(List.range k).map fun i => .int .i64 (x.getD i 0)
theorem aDj(k:Nat)(x:List Int):(mJ k x).length=k:=by simp [mJ]
theorem aDk(k:Nat)(x:List Int):∀ v∈mJ k x,v.oneCell'=true:=fun v hv=>by
 obtain ⟨i,_,rfl⟩:=Bi.1 hv;rfl
def cfL(x y:List Int):Int:=compareInt (x.getD 0 0) (y.getD 0 0)
theorem ltL(x y:List Int):ltOf cfL x y=decide (x.getD 0 0<y.getD 0 0):=by
 unfold ltOf cfL compareInt;generalize x.getD 0 0=a;generalize y.getD 0 0=b
 by_cases h1:a<b
 ·simp [h1]
 ·by_cases h2:b<a <;> simp [h1,h2]
theorem cFn:SWO (ltOf cfL) where
 irrefl x:=by rw [ltL];simp
 trans x y z h1 h2:=by rw [ltL] at *;simp only [decide_eq_true_eq] at *;omega
 ntrans x y z h1 h2:=by rw [ltL] at *;simp only [decide_eq_false_iff_not] at *;omega
def aW(l:Lqq):Lqq:=l.mergeSort fun a b=>decide (a.getD 0 0≤b.getD 0 0)
theorem cB(l:Lqq):(aW l).Perm l:=List.mergeSort_perm _ _
theorem jL(l:Lqq):(aW l).Pairwise fun a b=>a.getD 0 0≤b.getD 0 0:=by
 have:=List.pairwise_mergeSort (le:=fun a b:List Int=>decide (a.getD 0 0≤b.getD 0 0)) (fun a b c h1 h2=>by simp only [decide_eq_true_eq] at *;omega) (fun a b=>by simp only [aKm,decide_eq_true_eq];omega) l
 exact this.imp fun h=>of_decide_eq_true h
theorem aKs{l:Lqq}(hn:(bC l 0).Nodup){a b:List Int}(ha:a∈l)(hb:b∈l)(h:a.getD 0 0=b.getD 0 0):a=b:=by
 induction l with
 | nil=>cases ha
 | cons x l ih =>
  unfold bC at hn ih
  rw [iK,List.nodup_cons] at hn
  rcases eO.1 ha with rfl | Gv <;> rcases eO.1 hb with rfl | Al
  ·rfl
  ·exact absurd (Bi.2 ⟨b,Al,h.symm⟩) hn.1
  ·exact absurd (Bi.2 ⟨a,Gv,h⟩) hn.1
  ·exact ih hn.2 Gv Al
theorem uF{l l':Lqq}(hn:(bC l 0).Nodup)(hp:l'.Perm l)(hs:l'.Pairwise fun a b=>a.getD 0 0≤b.getD 0 0):l'=aW l :=
 List.Perm.eq_of_pairwise (le:=fun a b=>a.getD 0 0≤b.getD 0 0) (fun a b ha hb h1 h2=>aKs hn (hp.mem_iff.1 ha) ((cB l).mem_iff.1 hb) (by omega)) hs (jL l) (hp.trans (cB l).symm)
theorem bMp{k:Nat}{l l':Lqq}(hp:l'.Perm l)(hu:uni k l):uni k l':=fun x hx=>hu x (hp.mem_iff.1 hx)
theorem yA{k:Nat}{l:Lqq}(hu:uni k l):uni k (aW l):=bMp (cB l) hu
theorem oI(l:Lqq):(aW l).length=l.length:=(cB l).length_eq
end KV
end Go.Proofs
end
section
namespace Go.Proofs
open Go.Shelf
def Tryz.sortSk_ren:Go.Shelf.Ren:=⟨fun | 6=>153 | 15=>195 | 14=>207 | 28=>231 | 29=>232 | 20=>239 | 21=>240 | 22=>241 | 23=>242 | 24=>243 | 25=>244 | 26=>245 | 27=>246 | 46=>278 | 47=>271 | 48=>272 | 49=>279 | 50=>280 | 57=>292 | n=>n,fun | 22=>23 | 24=>80 | 25=>225 | 3=>3 | 39=>266 | 0=>0 | 53=>94 | 55=>288 | 4=>4 | 46=>281 | 45=>280 | 50=>179 | 5=>5 | 9=>9 | 66=>307 | 70=>311 | 76=>322 | 77=>236 | n=>n,fun | n=>n⟩
theorem Tryz.sortSk:Go.Proofs.SlLaysF0.n6 Tryz.prog Tryz.sortSk_ren:={
 mixed:=by kernel_rfl
 f6:=⟨Tryz.f153.name,by decide,func153.trans (congrArg some (by kernel_rfl))⟩
 f14:=⟨Tryz.f207.name,by decide,func207.trans (congrArg some (by kernel_rfl))⟩
 f15:=func195.trans (congrArg some (by kernel_rfl))
 f20:=⟨Tryz.f239.name,by decide,func239.trans (congrArg some (by kernel_rfl))⟩
 f21:=⟨Tryz.f240.name,by decide,func240.trans (congrArg some (by kernel_rfl))⟩
 f22:=⟨Tryz.f241.name,by decide,func241.trans (congrArg some (by kernel_rfl))⟩
 f23:=⟨Tryz.f242.name,by decide,func242.trans (congrArg some (by kernel_rfl))⟩
 f24:=⟨Tryz.f243.name,by decide,func243.trans (congrArg some (by kernel_rfl))⟩
 f25:=⟨Tryz.f244.name,by decide,func244.trans (congrArg some (by kernel_rfl))⟩
 f26:=⟨Tryz.f245.name,by decide,func245.trans (congrArg some (by kernel_rfl))⟩
 f27:=⟨Tryz.f246.name,by decide,func246.trans (congrArg some (by kernel_rfl))⟩
 f28:=func231.trans (congrArg some (by kernel_rfl))
 f29:=func232.trans (congrArg some (by kernel_rfl))
 f46:=⟨Tryz.f278.name,by decide,func278.trans (congrArg some (by kernel_rfl))⟩
 f47:=func271.trans (congrArg some (by kernel_rfl))
 f48:=func272.trans (congrArg some (by kernel_rfl))
 f49:=⟨Tryz.f279.name,by decide,func279.trans (congrArg some (by kernel_rfl))⟩
 f50:=⟨Tryz.f280.name,by decide,func280.trans (congrArg some (by kernel_rfl))⟩
 f57:=⟨Tryz.f292.name,by decide,func292.trans (congrArg some (by kernel_rfl))⟩
 t0:=Tryz.underlying0
 a0:=Tryz.isAgg0
 z0:=Tryz.sizeOf0
 v0:=Tryz.zeroValue0
 t3:=Tryz.underlying3
 a3:=Tryz.isAgg3
 z3:=Tryz.sizeOf3
 v3:=Tryz.zeroValue3
 t4:=Tryz.underlying4
 a4:=Tryz.isAgg4
 z4:=Tryz.sizeOf4
 v4:=Tryz.zeroValue4
 t5:=Tryz.underlying5
 a5:=Tryz.isAgg5
 z5:=Tryz.sizeOf5
 v5:=Tryz.zeroValue5
 t9:=Tryz.underlying9
 a9:=Tryz.isAgg9
 z9:=Tryz.sizeOf9
 v9:=Tryz.zeroValue9
 t22:=Tryz.underlying23
 a22:=Tryz.isAgg23
 z22:=Tryz.sizeOf23
 v22:=Tryz.zeroValue23
 t25:=Tryz.underlying225
 a25:=Tryz.isAgg225
 z25:=Tryz.sizeOf225
 v25:=Tryz.zeroValue225
 t39:=Tryz.underlying266
 a39:=Tryz.isAgg266
 z39:=Tryz.sizeOf266
 v39:=Tryz.zeroValue266
 t45:=Tryz.underlying280
 a45:=Tryz.isAgg280
 z45:=Tryz.sizeOf280
 v45:=Tryz.zeroValue280
 t46:=Tryz.underlying281
 a46:=Tryz.isAgg281
 z46:=Tryz.sizeOf281
 v46:=Tryz.zeroValue281
 t50:=Tryz.underlying179
 a50:=Tryz.isAgg179
 z50:=Tryz.sizeOf179
 v50:=Tryz.zeroValue179
 t53:=Tryz.underlying94
 a53:=Tryz.isAgg94
 z53:=Tryz.sizeOf94
 v53:=Tryz.zeroValue94
 t55:=Tryz.underlying288
 a55:=Tryz.isAgg288
 z55:=Tryz.sizeOf288
 v55:=Tryz.zeroValue288
 t66:=Tryz.underlying307
 a66:=Tryz.isAgg307
 z66:=Tryz.sizeOf307
 v66:=Tryz.zeroValue307
 t70:=Tryz.underlying311
 a70:=Tryz.isAgg311
 z70:=Tryz.sizeOf311
 v70:=Tryz.zeroValue311
 t76:=Tryz.underlying322
 a76:=Tryz.isAgg322
 z76:=Tryz.sizeOf322
 v76:=Tryz.zeroValue322
 t77:=Tryz.underlying236
 a77:=Tryz.isAgg236
 z77:=Tryz.sizeOf236
 v77:=Tryz.zeroValue236 }
def Tryz.sortDc_ren:Go.Shelf.Ren:=⟨fun | 6=>155 | 15=>195 | 14=>208 | 28=>231 | 29=>232 | 20=>247 | 21=>248 | 22=>249 | 23=>250 | 24=>251 | 25=>252 | 26=>253 | 27=>254 | 46=>281 | 47=>271 | 48=>272 | 49=>282 | 50=>283 | 57=>293 | n=>n,fun | 22=>24 | 24=>84 | 25=>227 | 3=>3 | 39=>266 | 0=>0 | 53=>94 | 55=>288 | 4=>4 | 46=>281 | 45=>280 | 50=>179 | 5=>5 | 9=>9 | 66=>307 | 70=>311 | 76=>322 | 77=>236 | n=>n,fun | n=>n⟩
theorem Tryz.sortDc:Go.Proofs.SlLaysF0.n6 Tryz.prog Tryz.sortDc_ren:={
 mixed:=by kernel_rfl
 f6:=⟨Tryz.f155.name,by decide,func155.trans (congrArg some (by kernel_rfl))⟩
 f14:=⟨Tryz.f208.name,by decide,func208.trans (congrArg some (by kernel_rfl))⟩
 f15:=func195.trans (congrArg some (by kernel_rfl))
 f20:=⟨Tryz.f247.name,by decide,func247.trans (congrArg some (by kernel_rfl))⟩
 f21:=⟨Tryz.f248.name,by decide,func248.trans (congrArg some (by kernel_rfl))⟩
 f22:=⟨Tryz.f249.name,by decide,func249.trans (congrArg some (by kernel_rfl))⟩
 f23:=⟨Tryz.f250.name,by decide,func250.trans (congrArg some (by kernel_rfl))⟩
 f24:=⟨Tryz.f251.name,by decide,func251.trans (congrArg some (by kernel_rfl))⟩
 f25:=⟨Tryz.f252.name,by decide,func252.trans (congrArg some (by kernel_rfl))⟩
 f26:=⟨Tryz.f253.name,by decide,func253.trans (congrArg some (by kernel_rfl))⟩
 f27:=⟨Tryz.f254.name,by decide,func254.trans (congrArg some (by kernel_rfl))⟩
 f28:=func231.trans (congrArg some (by kernel_rfl))
 f29:=func232.trans (congrArg some (by kernel_rfl))
 f46:=⟨Tryz.f281.name,by decide,func281.trans (congrArg some (by kernel_rfl))⟩
 f47:=func271.trans (congrArg some (by kernel_rfl))
 f48:=func272.trans (congrArg some (by kernel_rfl))
 f49:=⟨Tryz.f282.name,by decide,func282.trans (congrArg some (by kernel_rfl))⟩
 f50:=⟨Tryz.f283.name,by decide,func283.trans (congrArg some (by kernel_rfl))⟩
 f57:=⟨Tryz.f293.name,by decide,func293.trans (congrArg some (by kernel_rfl))⟩
 t0:=Tryz.underlying0
 a0:=Tryz.isAgg0
 z0:=Tryz.sizeOf0
 v0:=Tryz.zeroValue0
 t3:=Tryz.underlying3
 a3:=Tryz.isAgg3
 z3:=Tryz.sizeOf3
 v3:=Tryz.zeroValue3
 t4:=Tryz.underlying4
 a4:=Tryz.isAgg4
 z4:=Tryz.sizeOf4
 v4:=Tryz.zeroValue4
 t5:=Tryz.underlying5
 a5:=Tryz.isAgg5
 z5:=Tryz.sizeOf5
 v5:=Tryz.zeroValue5
 t9:=Tryz.underlying9
 a9:=Tryz.isAgg9
 z9:=Tryz.sizeOf9
 v9:=Tryz.zeroValue9
 t22:=Tryz.underlying24
 a22:=Tryz.isAgg24
 z22:=Tryz.sizeOf24
 v22:=Tryz.zeroValue24
 t25:=Tryz.underlying227
 a25:=Tryz.isAgg227
 z25:=Tryz.sizeOf227
 v25:=Tryz.zeroValue227
 t39:=Tryz.underlying266
 a39:=Tryz.isAgg266
 z39:=Tryz.sizeOf266
 v39:=Tryz.zeroValue266
 t45:=Tryz.underlying280
 a45:=Tryz.isAgg280
 z45:=Tryz.sizeOf280
 v45:=Tryz.zeroValue280
 t46:=Tryz.underlying281
 a46:=Tryz.isAgg281
 z46:=Tryz.sizeOf281
 v46:=Tryz.zeroValue281
 t50:=Tryz.underlying179
 a50:=Tryz.isAgg179
 z50:=Tryz.sizeOf179
 v50:=Tryz.zeroValue179
 t53:=Tryz.underlying94
 a53:=Tryz.isAgg94
 z53:=Tryz.sizeOf94
 v53:=Tryz.zeroValue94
 t55:=Tryz.underlying288
 a55:=Tryz.isAgg288
 z55:=Tryz.sizeOf288
 v55:=Tryz.zeroValue288
 t66:=Tryz.underlying307
 a66:=Tryz.isAgg307
 z66:=Tryz.sizeOf307
 v66:=Tryz.zeroValue307
 t70:=Tryz.underlying311
 a70:=Tryz.isAgg311
 z70:=Tryz.sizeOf311
 v70:=Tryz.zeroValue311
 t76:=Tryz.underlying322
 a76:=Tryz.isAgg322
 z76:=Tryz.sizeOf322
 v76:=Tryz.zeroValue322
 t77:=Tryz.underlying236
 a77:=Tryz.isAgg236
 z77:=Tryz.sizeOf236
 v77:=Tryz.zeroValue236 }
def Tryz.cmpInt_ren:Go.Shelf.Ren:=⟨fun | 5=>62 | 7=>124 | n=>n,fun | 22=>3 | 3=>3 | 4=>4 | n=>n,fun | n=>n⟩
theorem Tryz.cmpInt:Go.Proofs.SlLaysC2.n5 Tryz.prog Tryz.cmpInt_ren:={
 mixed:=by kernel_rfl
 f5:=⟨Tryz.f62.name,by decide,func62.trans (congrArg some (by kernel_rfl))⟩
 f7:=⟨Tryz.f124.name,by decide,func124.trans (congrArg some (by kernel_rfl))⟩
 t3:=Tryz.underlying3
 a3:=Tryz.isAgg3
 z3:=Tryz.sizeOf3
 v3:=Tryz.zeroValue3
 t4:=Tryz.underlying4
 a4:=Tryz.isAgg4
 z4:=Tryz.sizeOf4
 v4:=Tryz.zeroValue4
 t22:=Tryz.underlying3
 a22:=Tryz.isAgg3
 z22:=Tryz.sizeOf3
 v22:=Tryz.zeroValue3 }
end Go.Proofs
end
section
namespace Go.Proofs
open Go.RowKit Go.Lib Go.Sort Go.Shelf
namespace KV
open Tryz

set_option maxHeartbeats 1000000 in
theorem cFl(a b c d:Int)(W:World):Calls Tp 154 #[.agg #[.int .i64 a,.int .i64 b],.agg #[.int .i64 c,.int .i64 d]] W fun e w'=>e = .returned (.int .i64 (Lib.compareInt a c))∧∃ q Pb,w'=grow (W.drewN q) Pb:=by
 have hcon:=fun W'=>AnyG.cmp_Compare_int Tryz.cmpInt a c W'
 change ∀ W',Calls Tp 62 _ _ _ at hcon
 generalize Lib.compareInt a c=r at hcon ⊢
 go_enter func154,Tryz.ntmps154
 go_wp2_with (go_at_call 62;refine (hcon _).mono ?_;rintro e w' ⟨rfl,rfl⟩)
 go_ret
 exact ⟨rfl,0,_,by rw [alloc_eq_grow,alloc_eq_grow,grow_grow];rfl⟩
set_option maxHeartbeats 1000000 in
theorem cFm(a b c d e f a' b' c' d' e' f':Int)(W:World):Calls Tp 156 #[.agg #[.int .i64 a,.int .i64 b,.int .i64 c,.int .i64 d,.int .i64 e,.int .i64 f],.agg #[.int .i64 a',.int .i64 b',.int .i64 c',.int .i64 d',.int .i64 e',.int .i64 f']] W fun z w'=>z = .returned (.int .i64 (Lib.compareInt a a'))∧∃ q Pb,w'=grow (W.drewN q) Pb:=by
 have hcon:=fun W'=>AnyG.cmp_Compare_int Tryz.cmpInt a a' W'
 change ∀ W',Calls Tp 62 _ _ _ at hcon
 generalize Lib.compareInt a a'=r at hcon ⊢
 go_enter func156,Tryz.ntmps156
 go_wp2_with (go_at_call 62;refine (hcon _).mono ?_;rintro e w' ⟨rfl,rfl⟩)
 go_ret
 exact ⟨rfl,0,_,by rw [alloc_eq_grow,alloc_eq_grow,grow_grow];rfl⟩

theorem qY{C:Cx}{M:Mem}{w:World}{x:AV}{us:List Value}(h:cH C M w [x] us):∃ u,us=[u]∧Rep C M w x u:=by
 cases h with | cons _ u _ _ h hr=>cases hr;exact ⟨u,rfl,h⟩
theorem wA{C:Cx}{M:Mem}{w:World}{x y:AV}{us:List Value}(h:cH C M w [x,y] us):∃ u v,us=[u,v]∧Rep C M w x u∧Rep C M w y v:=by
 cases h with | cons _ u _ _ h hr=>obtain ⟨v,rfl,h2⟩:=qY hr;exact ⟨u,v,rfl,h,h2⟩
theorem bMo{C:Cx}{M:Mem}{w:World}{f:Nat}{u:Value}(h:Rep C M w (.fn f [] []) u):u = .func (.func f) #[] #[]:=by
 cases h with
 | fn _ _ _ us vs h1 h2 h3 h4 =>
  have e1:us = #[]:=Array.eq_empty_of_size_eq_zero h1;have e2:vs = #[]:=Array.eq_empty_of_size_eq_zero h2;subst e1;subst e2;rfl

theorem aIg{k:Nat}{l:Lqq}(hu:uni k l){j:Nat}(hj:j<(l.flatten.map aA).length):(l.flatten.map aA)[j] = .v ((mJ k (l.toArray)[j / k]!)[j % k]!):=by
 have hL:(l.flatten).length=l.length*k:=lF hu;have B6:j<l.length*k:=by rw [Bt,hL] at hj;exact hj
 have hk:0<k:=by
  rcases Nat.eq_zero_or_pos k with h | h
  ·subst h;simp at B6
  ·exact h
 have hq:j / k<l.length:=Nat.div_lt_of_lt_mul (by rw [Nat.mul_comm];exact B6)
 have hm:j % k<k:=bDp _ hk;have hx:l[j / k]? = some l[j / k]:=An hq;have hxl:l[j / k].length=k:=hu _ (eE hq);have hf:l[j / k][j % k]? = some l[j / k][j % k]:=An (by omega)
 have:=dL hu hx hf;have e:j / k*k+j % k=j:=by rw [Nat.mul_comm];exact Nat.div_add_mod j k
 rw [e,An hj] at this
 rw [Option.some.inj this];have e2:(l.toArray)[j / k]! = l[j / k]:=by simp [hq]
 rw [e2];unfold mJ;simp only [List.getElem!_eq_getElem?_getD,gF,bMb hm,Option.map_some,Option.getD_some,Bj,hf]

theorem aPc{f g ty k:Nat}(hsz:∃ i,Tryz.prog.info? ty=some i∧i.size=k)(hk:0<k)
  (hcall:∀ (blk cap:Nat) (d:Array (List Int)) (w:World),HoldsK (mJ k) k w blk 0 d→blk<w.heap.size→d.size<4611686018427387904→Calls Tp f #[.slice (some ⟨blk,0,none⟩) d.size cap,.func (.func g) #[] #[]] w fun e w' =>
   e = .returned (.tuple #[])∧∃ d' n os,PermIn 0 d.size d d'∧SortedIn (ltOf cfL) 0 d.size d'∧w'=sortWorldK (mJ k) k w blk 0 n d' os)
  (hnil:∀ (p:Option Addr) (cap:Nat) (fv:Value) (w:World),Calls Tp f #[.slice p 0 cap,fv] w fun e w'=>e = .returned (.tuple #[])∧w'=w)
  (l:Lqq) (hu:uni k l) (hn:(bC l 0).Nodup) (hl:l.length≤1000) :
  FMM Tp f [.own 0,.fn g [] []] [some (.row ty l.length (l.flatten.map aA))] (.tup []) [some (.row ty (aW l).length ((aW l).flatten.map aA))]:=fun C w us hus hM n=>by
 obtain ⟨u,v,rfl,Pd,hv⟩:=wA hus;obtain rfl:=bMo hv;rw [oI];have hown:(C.ι 0=none∧u = .slice none 0 0∧l.length=0)∨∃ b,C.ι 0=some b∧u = .slice (some ⟨b,0,none⟩) l.length (C.κ 0):=by
  cases Pd with
  | own _ _ h0 ha hr =>
   rcases hr _ _ _ rfl with ⟨q1,q2,q3⟩ | ⟨b,q1,q2⟩
   ·exact .inl ⟨q2,q1,q3⟩
   ·exact .inr ⟨b,q2,q1⟩
 rcases hown with ⟨hι,rfl,h0⟩ | ⟨b,hι,rfl⟩
 ·obtain rfl:l=[]:=sO h0
  refine (callsIn_wide.2 (hnil none 0 _ w)).mono ?_;rintro e w' ⟨rfl,rfl⟩;have e0:aW []=[]:=by simp [aW]
  rw [e0];exact ⟨_,rfl,C,Fr.refl _ _ _,hM,.tup [] #[] rfl (fun i h=>by simp at h)⟩
 ·rcases hM.row 0 _ _ _ rfl with ⟨E1,_⟩ | ⟨b',arr,i,q1,q2,q3,q4,q5,q6,q7,q8,q9⟩
  ·rw [hι] at E1;cases E1
  ·rw [hι] at q1;cases q1
   obtain ⟨i',Bs,Bh⟩:=hsz;rw [q3] at Bs;cases Bs
   have hcell:∀ j (hj:j<(l.flatten.map aA).length),arr.getD j undef=(mJ k (l.toArray)[j / k]!)[j % k]! := fun j hj=>by
    have:=q8 j hj;rw [aIg hu hj] at this
    exact bYh this
   have hlen:(l.flatten.map aA).length=l.length*k:=by rw [Bt,lF hu]
   have hle:l.length*k≤arr.size:=by rw [q4,Bh];exact Nat.mul_le_mul_right k q6
   have hH:HoldsK (mJ k) k w b 0 l.toArray:=by
    unfold HoldsK Holds;intro j hj;rw [size_flatK] at hj
    have D4:j<l.length*k:=by simpa using hj
    rw [get_flatK _ _ _ _ hj,← hcell j (by rw [hlen];exact D4)]
    have hja:j<arr.size:=by omega
    rw [gP];refine ⟨?_,?_⟩
    ·unfold World.cell?
     simp only [q2];rw [Bm,oD hja];simp
    ·unfold World.frozen?
     simp [q2]
   have hb:b<w.heap.size:=lt_of_block q2;have hc:=hcall b (C.κ 0) l.toArray w hH hb (by simp;omega)
   rw [List.size_toArray] at hc
   refine (callsIn_wide.2 hc).mono ?_;rintro e w' ⟨rfl,d',m,os,hp,hs,rfl⟩;have hd:d'.size=l.length:=by have:=hp.1;simpa using this
   have hperm:d'.toList.Perm l:=by
    have:=hp.2.2;have e1:d'.extract 0 l.length=d':=by rw [← hd];simp
    have e2:l.toArray.extract 0 l.length=l.toArray:=by simp
    rw [e1,e2] at this
    simpa using this
   have hsorted:d'.toList.Pairwise fun a b=>a.getD 0 0≤b.getD 0 0:=by
    rw [List.pairwise_iff_getElem];intro i j hi hj hij;have D4:j<d'.size:=by simpa using hj
    have:=hs i j (Nat.zero_le _) hij (by omega)
    rw [ltL] at this
    have h3:=of_decide_eq_false this;rw [getElem!_pos d' i (by omega),getElem!_pos d' j D4] at h3
    simpa using Int.not_lt.1 h3
   have Kf:d'=(aW l).toArray:=by
    have:=uF hn hperm hsorted;rw [← this]
   subst Kf;have hsu:=yA hu;have hsl:=oI l;have hw:∃ El,(sortWorldK (mJ k) k w b 0 m (aW l).toArray os).heap[b]? = some (.cells El ty (0,0))∧El.size=arr.size∧∀ j,j<l.length*k→El.getD j undef=(mJ k (aW l).toArray[j / k]!)[j % k]! := by
    refine ⟨putCells id 0 (flatK (mJ k) k (aW l).toArray) arr,?_,by simp [putCells],fun j hj => ?_⟩
    ·unfold sortWorldK grow putRowK putRow mapBlock
     have hlt:b<(w.heap.modify b (onCells (putCells id 0 (flatK (mJ k) k (aW l).toArray)))).size:=by simpa using hb
     show (w.heap.modify b (onCells (putCells id 0 (flatK (mJ k) k (aW l).toArray)))++os)[b]? = _;rw [Array.getElem?_append_left hlt,Array.getElem?_modify];simp [q2,onCells]
    ·have hja:j<arr.size:=by omega
     rw [Bm];unfold putCells;rw [Array.getElem?_mapIdx,oD hja];have hsz:j<(flatK (mJ k) k (aW l).toArray).size:=by rw [size_flatK];simpa [hsl] using hj
     simp only [Option.map_some,Option.getD_some,Nat.zero_le,true_and,gP,hsz,if_true,Nat.sub_zero,id];exact get_flatK _ _ _ _ (by simpa [hsl] using hj)
   obtain ⟨El,w1,w2,w3⟩:=hw;have Mi:((aW l).flatten.map aA).length=l.length*k:=by rw [Bt,lF hsu,hsl]
   have hall:∀ j (h:j<((aW l).flatten.map aA).length),El.getD j undef=(mJ k (aW l).toArray[j / k]!)[j % k]! := fun j h=>w3 j (by omega)
   obtain ⟨f1,m1⟩:=aUh (Be:=(aW l).flatten.map aA) (w':=sortWorldK (mJ k) k w b 0 m (aW l).toArray os) hM hι q2 rfl rfl rfl
    (by unfold sortWorldK;rw [size_grow];show w.heap.size≤(w.heap.modify b _).size+_;simp)
    (fun b' h1 h2=>by
     show (w.heap.modify b (onCells (putCells id 0 (flatK (mJ k) k (aW l).toArray)))++os)[b']? = _;rw [Array.getElem?_append_left (by simpa using h1),Array.getElem?_modify,if_neg (fun h=>h2 h.symm)])
    w1 w2 (by rw [Mi,hlen]) (fun j h=>by rw [aIg hsu h,hall j h];exact .v _)
    (fun j h=>by
     rw [hall j h];have:=aDk k ((aW l).toArray[j / k]!) ((mJ k (aW l).toArray[j / k]!)[j % k]!) (by
      have hm:j % k<(mJ k (aW l).toArray[j / k]!).length:=by rw [aDj];exact bDp _ hk
      rw [List.getElem!_eq_getElem?_getD,An hm];exact eE hm)
     exact this)
   exact ⟨_,rfl,C,f1,m1,.tup [] #[] rfl (fun i h=>by simp at h)⟩
end KV
end Go.Proofs
end
section
namespace Go.Proofs
open Go.RowKit Go.Lib Go.Sort Go.Shelf
namespace KV
open Tryz

theorem Kn:(Tryz.prog.info? 80).map (fun i=>i.size)=some 2:=by kernel_rfl
theorem Ko:(Tryz.prog.info? 84).map (fun i=>i.size)=some 6:=by kernel_rfl
theorem sD{t k:Nat}(h:(Tryz.prog.info? t).map (fun i=>i.size)=some k):∃ i,Tryz.prog.info? t=some i∧i.size=k:=by
 cases h2:Tryz.prog.info? t with
 | none=>rw [h2] at h;cases h
 | some i=>rw [h2] at h;exact ⟨i,rfl,by simpa using h⟩
theorem bEt(l:Lqq)(hu:uni 2 l)(hn:(bC l 0).Nodup)(hl:l.length≤1000):FMM Tp 153 [.own 0,.fn 154 [] []] [some (.row 80 l.length (l.flatten.map aA))] (.tup []) [some (.row 80 (aW l).length ((aW l).flatten.map aA))] :=
 aPc (k:=2) (sD Kn) (by omega)
  (fun blk cap d w hH hb hd=>AnyQ.slices_SortFunc Tryz.sortSk 2 Tryz.isAgg80 Tryz.sizeOf80 (mJ 2) (aDj 2) (aDk 2) cfL cFn 154 #[] blk 0 cap d w (enters_of func154 (by kernel_rfl) rfl)
   (fun m os dk _ x y=>cFl (x.getD 0 0) (x.getD 1 0) (y.getD 0 0) (y.getD 1 0) _) hH hb hd)
  (fun p cap fv w=>AnyF.slices_SortFunc_none Tryz.sortSk p cap fv w) l hu hn hl
theorem bEu(l:Lqq)(hu:uni 6 l)(hn:(bC l 0).Nodup)(hl:l.length≤1000):FMM Tp 155 [.own 0,.fn 156 [] []] [some (.row 84 l.length (l.flatten.map aA))] (.tup []) [some (.row 84 (aW l).length ((aW l).flatten.map aA))] :=
 aPc (k:=6) (sD Ko) (by omega)
  (fun blk cap d w hH hb hd=>AnyQ.slices_SortFunc Tryz.sortDc 6 Tryz.isAgg84 Tryz.sizeOf84 (mJ 6) (aDj 6) (aDk 6) cfL cFn 156 #[] blk 0 cap d w (enters_of func156 (by kernel_rfl) rfl)
   (fun m os dk _ x y=>cFm (x.getD 0 0) (x.getD 1 0) (x.getD 2 0) (x.getD 3 0) (x.getD 4 0) (x.getD 5 0) (y.getD 0 0) (y.getD 1 0) (y.getD 2 0) (y.getD 3 0) (y.getD 4 0) (y.getD 5 0) _) hH hb hd)
  (fun p cap fv w=>AnyF.slices_SortFunc_none Tryz.sortDc p cap fv w) l hu hn hl
end KV
end Go.Proofs
end
section
namespace Go.Proofs
open Go.RowKit Go.Lib Go.Shelf
namespace KV
open Tryz

theorem bEs{f ty k:Nat}(hsz:∃ i,Tryz.prog.info? ty=some i∧i.size=k)
  (h:∀ (p:Option Addr) (c:Nat) (w:World),Calls Tp f #[.slice p 0 c] w fun e w'=>∃ v',e = .returned v'∧w'.ownsRow w.heap.size ty k v' 0 []∧Below w.heap.size w w') {base:Nat} :
  FV Tp f [.p (.sl 0 [])] base (.own base) [(base,.row ty 0 [])]:=by
 refine ⟨.own 0,[some (.row ty 0 [])],fun C w us hus hM n => ?_,by simp [aMy,bKr,eX,bN,bKs,bBv]⟩
 obtain ⟨u,rfl,hu⟩:=qY hus;cases hu with
 | p _ _ hu =>
  have Tf:∃ p c,u = .slice p 0 c:=by cases hu with | sl n cs p cap us h1 h2 h3 h4 h5=>exact ⟨p,cap,rfl⟩
  obtain ⟨p,c,rfl⟩:=Tf;refine (callsIn_wide.2 (h p c w)).mono ?_;rintro e w' ⟨v',rfl,h1,h2⟩;have Cy:∀ (id:Nat) (o:AO),([some (.row ty 0 [])]:Mem)[id]? = some (some o)→id=0∧o = .row ty 0 []:=fun id o h=>by
   cases id with
   | zero=>simp at h;exact ⟨rfl,h.symm⟩
   | succ i=>simp at h
  have hno:∀ (id:Nat) (o:AO),¬ (([]:Mem)[id]? = some (some o)):=fun id o h=>by simp at h
  have hc:(v' = .slice none 0 0)∨∃ g cap cur,v' = .slice (some ⟨g,0,none⟩) 0 cap∧w.heap.size≤g∧w'.heap[g]? = some (.cells cur ty (0,0))∧cap≤maxLen∧cur.size=cap*k:=by
   rcases h1.2 with ⟨he,h0⟩ | ⟨g,cp,cur,he,hg,hh,r1,r2,r3,r4⟩
   ·exact .inl he
   ·exact .inr ⟨g,cp,cur,he,hg,hh,r2,r3⟩
  have new:∀ b,v'.ownBlock=some b→w.heap.size≤b∧b<w'.heap.size:=fun b hb=>by
   rcases hc with rfl | ⟨g,cap,cur,rfl,hg,hh,_⟩
   ·cases hb
   ·cases hb;exact ⟨hg,lt_of_block hh⟩
  refine ⟨_,rfl,{ ι:=fun _=>v'.ownBlock,κ:=fun _=>(match v' with | .slice _ _ c=>c | _=>0),F:=C.F },⟨h2.os,h2.tape,h2.output,h2.size,fun b hb _=>h2.block b hb,fun id o h=>absurd h (hno id o),fun id o h=>absurd h (hno id o),fun id o h=>absurd h (hno id o),fun id o b hm hl hb => .inl (new b hb).1,fun _ h=>h,fun _ h => .inl h⟩,
   ⟨fun id ty n cs hm => ?_,fun id ty cs hm => ?_,fun id es cl hm => ?_,fun id E3 o o' b q1 _ q2 _ _ _ => ?_,fun id o b hm hl hb hf => ?_,fun b hb=>fK (hM.Fs b hb) h2.size,fun id o b hm hl hb=>(new b hb).2⟩,?_⟩
  ·obtain ⟨rfl,he⟩:=Cy _ _ hm
   cases he
   rcases hc with rfl | ⟨g,cap,cur,rfl,_,hh,r2,r3⟩
   ·exact .inl ⟨rfl,rfl,rfl⟩
   ·obtain ⟨i,hi,hs⟩:=hsz
    exact .inr ⟨g,cur,i,rfl,hh,hi,by rw [hs];exact r3,by simp,Nat.zero_le _,r2,fun j h=>by simp at h,fun j h=>by simp at h⟩
  ·obtain ⟨_,he⟩:=Cy _ _ hm;cases he
  ·obtain ⟨_,he⟩:=Cy _ _ hm;cases he
  ·obtain ⟨rfl,_⟩:=Cy _ _ q1
   obtain ⟨rfl,_⟩:=Cy _ _ q2;rfl
  ·have:=hM.Fs _ hf
   have:=(new b hb).1;omega
  ·have h0:v'.oneCell'=true:=by rcases hc with rfl | ⟨g,cap,cur,rfl,_⟩ <;> rfl
   refine .own 0 _ h0 ⟨_,rfl⟩ fun Cc n cs hm => ?_
   obtain ⟨_,he⟩:=Cy _ _ hm;cases he
   rcases hc with rfl | ⟨g,cap,cur,rfl,_⟩
   ·exact .inl ⟨rfl,rfl,rfl⟩
   ·exact .inr ⟨g,rfl,rfl⟩
end KV
end Go.Proofs
end
namespace Go.Proofs
namespace KV
open Tryz
section
variable {l:Lqq}{base:Nat}

theorem qX{k:Nat}{l:Lqq}(hu:uni k l):(l.flatten.map aA).length=l.length*k:=by rw [Bt,lF hu]
theorem bZi(h0:(l.flatten.map aA).length=l.length*2∧l.length≤1000000):FV Tp 78 [(.p (fS l))] base (.own base) [(base,(.row 80 l.length (l.flatten.map aA)))]:=FV.fi func78 [] (gc h0 gn)
theorem bZj(l:Lqq)(hu:uni 2 l)(hl:l.length≤1000){base:Nat}:FV Tp 78 [.p (fS l)] base (.own base) [(base,.row 80 l.length (l.flatten.map aA))]:=bZi ⟨qX hu,by omega⟩
theorem bZk(h0:(l.flatten.map aA).length=l.length*6∧l.length≤1000000):FV Tp 79 [(.p (fS l))] base (.own base) [(base,(.row 84 l.length (l.flatten.map aA)))]:=FV.fi func79 [] (gc h0 gn)
theorem bZl(l:Lqq)(hu:uni 6 l)(hl:l.length≤1000){base:Nat}:FV Tp 79 [.p (fS l)] base (.own base) [(base,.row 84 l.length (l.flatten.map aA))]:=bZk ⟨qX hu,by omega⟩
end
section
variable {dl:Int}{dc sk:Lqq}

theorem bZf(h0:uni 2 sk)(h1:sk.length≤1000)(h2:uni 6 dc)(h3:dc.length≤1000):FMM Tp 36 [(.p (.agg (qZ dl sk dc)))] [] (.agg [(pI dl),(.p (fS sk)),(.own 0)]) [some (.row 84 dc.length (dc.flatten.map aA))]:=have k1:=fk 2 (bZj sk h0 h1) rfl;have k2:=fk 10 (bZl dc h2 h3) rfl;FMM.fi 0 ⟨[],[10],[2],[]⟩ func36 [k1.o,k2.o] (gc k2 (gc k1 gn))
theorem bZg(h0:uni 2 sk)(h1:uni 6 dc)(h2:(bMq dl sk dc)=0)(h3:0≤(sk.length:Int)∧(sk.length:Int)≤(sk.length:Int)∧(sk.length:Int)≤1000000)(h4:0≤(dc.length:Int)∧(dc.length:Int)≤(dc.length:Int)∧(dc.length:Int)≤1000000)(h5:(bC sk 0).Nodup)(h6:sk.length≤1000)(h7:(bC dc 0).Nodup)(h8:dc.length≤1000){base:Nat}:FV Tp 88 [(.p (.agg (qZ dl sk dc)))] base (.tup [(.p (.agg (qZ dl (aW sk) (aW dc)))),(pI 0)]) []:=have k1:=fk 2 (bZm dl sk dc h0 h1) rfl;have k2:=mq [3] 7 (bEt sk h0 h5 h6);have k3:=mq [5] 7 (bEu dc h1 h7 h8);FV.frz (FMM.fi 0 ⟨[],[],[3,5],[]⟩ func88 [k1.o,bF,k2.o,k3.o] (gc k3 (gc k2 (gt ((dc.flatten.map aA).length=dc.length*6∧dc.length=dc.length) ⟨qX h1,rfl⟩ (gt ((sk.flatten.map aA).length=sk.length*2∧sk.length=sk.length) ⟨qX h0,rfl⟩ (gc h4 (gc h3 (gc (cR h2) (gc k1 gn))))))))) (by kernel_rfl)
theorem bZh(dl:Int)(sk dc:Lqq)(h:fQ dl sk dc){base:Nat}:FV Tp 88 [.p (.agg (qZ dl sk dc))] base (.tup [.p (.agg (qZ dl (aW sk) (aW dc))),.p (aA 0)]) []:=by
 have h1:=h.len;have h2:=h.len2;exact bZg h.us h.ud ((bSs h.us h.ud).2 h) (by omega) (by omega) h.ns (by omega) h.nd (by omega)
theorem aPb{k:Nat}{l:Lqq}{x:List Int}(hu:uni k l)(hx:x.length=k):uni k (l++[x]):=fun y hy=>by
 rcases dY.1 hy with h | h
 ·exact hu y h
 ·simp at h;rw [h];exact hx
end
end KV
end Go.Proofs
