/- Parts of the proof of JOutcomes: laws of walks, contracts of functions, plain models. No condition. -/
import Derived.Test.YtgejpbmanhlkcaaGreatProg
import Derived.ProofKit
import Derived.Carry
import Derived.Deep.Slices
import Derived.RangeFuncLeaves
import Derived.OwnWalkIn
import Derived.TacticsInMore
import Derived.Shelf.SlSortCmp.WholeK
import Derived.Shelf.SlicesG.Cmp
import Derived.Ground.SlsfProg
import Derived.Ground.SlgcProg
import Derived.Ground.NamesProg
import Derived.Shelf.SlSortCmp.NoneTotal
import Derived.Lib.OwnBridge
import Derived.Shelf.Slices.Clone
import Derived.Test.YtgejpbmanhlkcaaGreatPJOutcomesA
set_option linter.unusedVariables false
set_option linter.unusedSimpArgs false
set_option maxRecDepth 100000
namespace Go.Proofs
namespace KV
open Tryz
section
variable {P:Program} {T:TT} {E:Env} {C C0:Cx} {M M0:Mem} {w w0:World}

def cost(o:Oper):Nat:=match o.op with
 | .alloc _ | .box _ _ | .buildSlice _ _ _ | .makeSlice _ _ _=>1
 | .call c=>match c.callee with
  | .builtin _=>1
  | _=>8
 | _=>0
def ido(ops:List Oper)(base k:Nat):Nat:=base+((ops.take k).map cost).sum

abbrev yG:=AV × Upd × Option (List Nat)
def aEj(q:yG):Ft:=⟨q.2.2,q.2.1.map (·.1)⟩

def bAm(o:Oper)(vs:List AV)(m:Mem)(id:Nat):Ask (Option (List Nat)):=fun s=>some (fpQ o vs m id s,s)
theorem bQh{o:Oper}{vs:List AV}{m:Mem}{id:Nat}{s s':AS}{b:Option (List Nat)}(h:bAm o vs m id s=some (b,s')):b=fpQ o vs m id s∧s'=s:=by
 unfold bAm at h
 cases h;exact ⟨rfl,rfl⟩
theorem aTv{o:Oper}{vs:List AV}{m:Mem}{id:Nat}:cK (bAm o vs m id):=fun s r s' e p hp=>by obtain ⟨_,rfl⟩:=bQh e;exact hp
def aTw(P:Program)(T:TT)(E:Env)(ops:List Oper):List Oper→Nat→St→Ask (List Ft × St)
 | [],_,st=>pure ([],st)
 | o::r,id,st=>do
  let go ← jY ops o st
  match go with
  | true=>do
   let vs ← lift (evs st o.op.operands.toList)
   let fp ← bAm o vs st.m id
   let q ← pA P T E o vs st.m id
   let y ← aTw P T E ops r (id+cost o) ⟨put st.t o.dst q.1,upds st.m q.2⟩
   pure (⟨fp,q.2.map (·.1)⟩::y.1,y.2)
  | false=>do
   let y ← aTw P T E ops r (id+cost o) ⟨put st.t o.dst (.tup []),st.m⟩
   pure (⟨some [],[]⟩::y.1,y.2)

def tD(ops:Array Oper):Nat→Nat→Nat→Bool
 | 0,_,_=>false
 | n+1,k,j=>match ops[j]? with
  | some oj=>(oj.after.any fun e=>Region.binds .any e && e.on == k) || oj.after.any fun e=>Region.binds .any e && tD ops n k e.on
  | none=>false
def aLt(ops:Array Oper)(k:Nat)(f:Ft):Nat→List Ft→Bool
 | _,[]=>true
 | j,g::r=>(aTz f g || tD ops 5 k j) && aLt ops k f (j+1) r
def aLu(ops:Array Oper):Nat→List Ft→Bool
 | _,[]=>true
 | k,f::r=>aLt ops k f (k+1) r && aLu ops (k+1) r

def next(o:Oper)(q:yG)(st:St):St:=⟨put st.t o.dst q.1,upds st.m q.2.1⟩

inductive aPh (P:Program) (T:TT) (E:Env) (ops:List Oper):Nat→List Oper→St→List yG→St→Prop
 | nil (id:Nat) (st:St):aPh P T E ops id [] st [] st
 | cons (id:Nat) (o:Oper) (l:List Oper) (st:St) (q:yG) (os:List yG) (fin:St) (h:tF P T E ops o id st q.1 q.2.1 q.2.2) (hr:aPh P T E ops (id+cost o) l (next o q st) os fin):aPh P T E ops id (o::l) st (q::os) fin

theorem qX{ops:List Oper}:∀ {l:List Oper} {id:Nat} {st:St},cK (aTw P T E ops l id st)
 | [],_,_=>aO _
 | _::_,_,_=>by
  unfold aTw;refine bH aEy fun _ => ?_
  split
  ·exact aN fun _=>bH aTv fun _=>bH rK fun _=>bH qX fun _=>aO _
  ·exact bH qX fun _=>aO _

theorem tE{ops:List Oper}:∀ (l:List Oper) (id:Nat) {st fin:St} {fts:List Ft} {s s':AS},aTw P T E ops l id st s=some ((fts,fin),s')→bD s'→∃ os:List yG,fts=os.map aEj∧aPh P T E ops id l st os fin
 | [],id,st,fin,fts,s,s',h,g=>by
  obtain ⟨he,rfl⟩:=aL h;cases he;exact ⟨[],rfl,.nil _ _⟩
 | o::l,id,st,fin,fts,s,s',h,g=>by
  unfold aTw at h
  obtain ⟨go,s1,h1,k1⟩:=aE h;cases go with
  | true =>
   obtain ⟨vs,s2,h2,k2⟩:=aE k1;obtain ⟨e2,rfl⟩:=aH h2;obtain ⟨au,sa,ha,ka⟩:=aE k2;obtain ⟨rfl,rfl⟩:=bQh ha;obtain ⟨q,s3,h3,k3⟩:=aE ka;obtain ⟨y,s4,h4,k4⟩:=aE k3;obtain ⟨he,rfl⟩:=aL k4;cases he;obtain ⟨os,e5,hl⟩:=tE l _ (fts:=y.1) (fin:=y.2) h4 g;have g3:=qX.good h4 g;exact ⟨(q.1,q.2,fpQ o vs st.m id sa)::os,by rw [iB,e5];rfl,.cons _ _ _ _ (q.1,q.2,fpQ o vs st.m id sa) _ _ ⟨s,sa,.inr ⟨h1,vs,s3,e2,h3,g3,rfl⟩⟩ hl⟩
  | false =>
   obtain ⟨y,s4,h4,k4⟩:=aE k1;obtain ⟨he,rfl⟩:=aL k4;cases he;obtain ⟨os,e5,hl⟩:=tE l _ (fts:=y.1) (fin:=y.2) h4 g;exact ⟨(.tup [],[],some [])::os,by rw [iB,e5];rfl,.cons _ _ _ _ (.tup [],[],some []) _ _ ⟨s,s1,.inl ⟨h1,qX.good h4 g,rfl,rfl,rfl⟩⟩ hl⟩

def qY(P:Program)(T:TT)(E:Env)(ops:List Oper)(base:Nat)(out:Nat→yG)(fin:St):Nat→Array Bool→St→Prop
 | 0,listed,st=>Region.ready .any ops.toArray listed=[]∧st=fin
 | fuel+1,listed,st=>(Region.ready .any ops.toArray listed=[]→st=fin) ∧
  ∀ j∈Region.ready .any ops.toArray listed,∃ o,ops[j]? = some o∧tF P T E ops o (ido ops base j) st (out j).1 (out j).2.1 (out j).2.2∧qY P T E ops base out fin fuel (listed.setIfInBounds j true) (next o (out j) st)

def aEk(ops:List Oper)(listed:Array Bool):Prop:=∀ j oj,ops[j]? = some oj→listed.getD j false=true→∀ e∈oj.after,Region.binds .any e=true→listed.getD e.on false=true

theorem aIy{ops:List Oper}{listed:Array Bool}{i:Nat}(hc:aEk ops listed)(hi:listed.getD i false=false):∀ (n j:Nat),(∀ oj,ops[j]? = some oj→∀ e∈oj.after,Region.binds .any e=true→listed.getD e.on false=true)→tD ops.toArray n i j=false
 | 0,_,_=>rfl
 | n+1,j,h=>by
  unfold tD;cases hj:ops[j]? with
  | none=>simp [hj]
  | some oj =>
   simp only [List.getElem?_toArray,hj,Bool.or_eq_false_iff];refine ⟨?_,?_⟩
   ·rw [Bool.eq_false_iff]
    intro hw;obtain ⟨e,he,hb⟩:=Array.any_eq_true'.1 hw;simp only [Ce,beq_iff_eq] at hb
    have:=h oj hj e he hb.1;rw [hb.2,hi] at this
    cases this
   ·rw [Bool.eq_false_iff]
    intro hw;obtain ⟨e,he,hb⟩:=Array.any_eq_true'.1 hw;simp only [Ce] at hb
    have h1:=h oj hj e he hb.1;rw [aIy hc hi n e.on (fun o ho e' Sf A4=>hc e.on o ho h1 e' Sf A4)] at hb
    cases hb.2

theorem aEl{ops:List Oper}{listed:Array Bool}{j:Nat}(hc:aEk ops listed)(hj:∀ oj,ops[j]? = some oj→∀ e∈oj.after,Region.binds .any e=true→listed.getD e.on false=true):aEk ops (listed.setIfInBounds j true):=fun k ok hk hl e he hb=>by
 refine getD_set_true ?_
 by_cases h:j=k
 ·subst h;exact hj ok hk e he hb
 ·rw [getD_set_ne false h] at hl
  exact hc k ok hk hl e he hb

theorem qY.first{ops:List Oper}{base:Nat}{out:Nat→yG}{fin:St}{i:Nat}{oi:Oper}(hi:ops[i]? = some oi):∀ (fuel:Nat) (listed:Array Bool) (st:St),
  (∀ j oj,ops[j]? = some oj→j≠i→listed.getD j true=false→(∀ e∈oj.after,Region.binds .any e=true→e.on≠i)→oi.apart ops.toArray oj=true∧(aTz (aEj (out i)) (aEj (out j))=true∨tD ops.toArray 5 i j=true))→aEk ops listed →
  i∈Region.ready .any ops.toArray listed→tF P T E ops oi (ido ops base i) st (out i).1 (out i).2.1 (out i).2.2→qY P T E ops base out fin fuel (listed.setIfInBounds i true) (next oi (out i) st)→qY P T E ops base out fin (fuel+1) listed st:=by
 intro fuel
 induction fuel with
 | zero =>
  intro listed st _ _ hr hs H;refine ⟨fun h=>(by rw [h] at hr;cases hr),fun j hj => ?_⟩
  by_cases hji:j=i
  ·subst hji;exact ⟨oi,hi,hs,H⟩
  ·have:=ready_mono hj hji
   rw [H.1] at this
   cases this
 | succ fuel ih =>
  intro listed st hfree hcl hr hs H;refine ⟨fun h=>(by rw [h] at hr;cases hr),fun j hj => ?_⟩
  by_cases hji:j=i
  ·subst hji;exact ⟨oi,hi,hs,H⟩
  ·obtain ⟨oj,hoj,hsj,hH⟩:=H.2 j (ready_mono hj hji)
   obtain ⟨hjun,Ob,Ot,hall⟩:=mem_ready.1 hj;have:Ob=oj:=by
    rw [List.getElem?_toArray,hoj] at Ot
    cases Ot;rfl
   subst this;have hnot:∀ e∈Ob.after,Region.binds .any e=true→e.on≠i:=fun e he hb heq=>by
    have h1:=hall e he hb;have h0:=(mem_ready.1 hr).1;rw [heq] at h1
    rcases Nat.lt_or_ge i listed.size with h' | h'
    ·simp [h'] at h0 h1;rw [h0] at h1;cases h1
    ·simp [Array.getElem?_eq_none h'] at h1
   have L8:listed.getD j true=false:=by
    rcases Nat.lt_or_ge j listed.size with h' | h'
    ·simpa [h'] using hjun
    ·exact hjun
   obtain ⟨hap,hok⟩:=hfree j Ob hoj hji L8 hnot;have hjall:∀ oj,ops[j]? = some oj→∀ e∈oj.after,Region.binds .any e=true→listed.getD e.on false=true:=fun o ho e he hb=>by
    rw [hoj] at ho;cases ho;exact hall e he hb
   have hiun:listed.getD i false=false:=by
    have h0:=(mem_ready.1 hr).1
    rcases Nat.lt_or_ge i listed.size with h' | h'
    ·simp [h'] at h0 ⊢;exact h0
    ·simp [Nat.not_lt.2 h']
   replace hok:=hok.resolve_right (by rw [aIy hcl hiun 5 j hjall];simp)
   obtain ⟨m1,m2,m3,m4⟩:=tF.move hap hok hs hsj;have hnx:next Ob (out j) (next oi (out i) st)=next oi (out i) (next Ob (out j) st):=by
    unfold next;simp only [m3,m4]
   refine ⟨Ob,hoj,m1,ih _ _ (fun k ok hk hki hun hno=>hfree k ok hk hki ?_ hno) (aEl hcl hjall) (ready_mono hr (Ne.symm hji)) m2 ?_⟩
   ·by_cases hjk:j=k
    ·subst hjk;exact L8
    ·rw [getD_set_ne true hjk] at hun;exact hun
   ·rw [hnx,Array.setIfInBounds_comm _ _ (Ne.symm hji)] at hH
    exact hH

theorem bQi{ops:List Oper}{base k:Nat}{o:Oper}(h:ops[k]? = some o):ido ops base (k+1)=ido ops base k+cost o:=by
 unfold ido;rw [List.take_add_one,h];simp [Nat.add_assoc]

theorem qY.lex{ops:List Oper}{base:Nat}{out:Nat→yG}{fin:St}:∀ (l:List Oper) (k:Nat) (listed:Array Bool) (st:St) (os:List yG),(∀ j,l[j]? = ops[k+j]?)→(∀ j q,os[j]? = some q→out (k+j)=q)→(∀ j,j<k→listed.getD j true=true)→aEk ops listed →
  (∀ i j,k≤i→i<j→(ops[j]?).isSome→aTz (aEj (out i)) (aEj (out j))=true∨tD ops.toArray 5 i j=true) →
  Region.lexFrom .any ops.toArray l.length k listed=true→aPh P T E ops (ido ops base k) l st os fin→qY P T E ops base out fin l.length listed st
 | [],k,listed,st,os,_,_,_,_,_,hB,h=>by
  cases h;exact ⟨by simpa [Region.lexFrom] using hB,rfl⟩
 | o::l,k,listed,st,os,hl,ho,hk,hcl,hA,hB,h=>by
  cases h with
  | cons _ _ _ _ q os _ hs hr =>
   have h0:ops[k]? = some o:=by simpa using (hl 0).symm
   have hq:out k=q:=ho 0 q rfl;simp only [oE,Region.lexFrom,Ce] at hB
   obtain ⟨⟨hrd,hf⟩,Sg⟩:=hB;have U2:ops.toArray[k]? = some o:=by rw [List.getElem?_toArray];exact h0
   have Ou:k∈Region.ready .any ops.toArray listed:=by simpa using hrd
   have hkall:∀ oj,ops[k]? = some oj→∀ e∈oj.after,Region.binds .any e=true→listed.getD e.on false=true:=fun o' D7 e he hb=>by
    obtain ⟨_,o2,Kn,hall⟩:=mem_ready.1 Ou;rw [U2] at Kn;cases Kn
    rw [h0] at D7;cases D7
    exact hall e he hb
   refine qY.first h0 l.length listed st (fun j oj hj hjk hun hno => ?_) hcl Ou (by rw [hq];exact hs) ?_
   ·refine ⟨Region.free_spec U2 hf j oj (by rw [List.getElem?_toArray];exact hj) hjk hun hno,?_⟩
    have hlt:k<j:=by
     rcases Nat.lt_trichotomy k j with h1 | h1 | h1
     ·exact h1
     ·exact absurd h1.symm hjk
     ·rw [hk j h1] at hun;cases hun
    exact hA k j (dF _) hlt (by rw [hj];rfl)
   ·rw [hq]
    refine qY.lex l (k+1) _ _ os (fun j=>by have:=hl (j+1);simpa [Nat.add_assoc,Nat.add_comm 1 j] using this) (fun j q' hj=>by have:=ho (j+1) q' (by simpa using hj);rw [← this];congr 1;omega) (fun j hj => ?_) (aEl hcl hkall)
     (fun i j hi=>hA i j (by omega)) Sg (by rw [bQi h0];exact hr)
    by_cases e:k=j
    ·subst e
     rcases Nat.lt_or_ge k listed.size with h' | h'
     ·simp [h']
     ·simp [Nat.not_lt.2 h']
    ·rw [getD_set_ne true e];exact hk j (by omega)

theorem aBv{ops:Array Oper}{k:Nat}{f:Ft}:∀ (l:List Ft) (j:Nat),aLt ops k f j l=true→∀ i g,l[i]? = some g→aTz f g=true∨tD ops 5 k (j+i)=true
 | [],_,_,i,g,h=>by simp at h
 | x::l,j,h,i,g,hi=>by
  unfold aLt at h
  rw [Ce,wB] at h
  cases i with
  | zero=>simp at hi;subst hi;exact h.1
  | succ i =>
   have:=aBv l (j+1) h.2 i g (by simpa using hi)
   rwa [show j+1+i=j+(i+1) by omega] at this
theorem oV{ops:Array Oper}:∀ (l:List Ft) (k:Nat),aLu ops k l=true→∀ i j f g,i<j→l[i]? = some f→l[j]? = some g→aTz f g=true∨tD ops 5 (k+i) (k+j)=true
 | [],_,_,i,j,f,g,_,h,_=>by simp at h
 | x::l,k,h,i,j,f,g,hij,hi,hj=>by
  unfold aLu at h
  rw [Ce] at h
  cases j with
  | zero=>omega
  | succ j =>
   cases i with
   | zero =>
    simp at hi;subst hi
    have:=aBv l (k+1) h.1 j g (by simpa using hj)
    rwa [show k+1+j=k+(j+1) by omega] at this
   | succ i =>
    have:=oV l (k+1) h.2 i j f g (by omega) (by simpa using hi) (by simpa using hj)
    rwa [show k+1+i=k+(i+1) by omega,show k+1+j=k+(j+1) by omega] at this

theorem qY.sound(hT:∀ t i,T t=some i→cQ P t=some i)(hE:nG P E){ops:List Oper}{base:Nat}{out:Nat→yG}{fin:St}{ro:Option Nat}{n:Nat}{Q:Exit→Act→World→Prop}(hQ:∀ a' w',Sim P C0 M0 w0 fin a' w'→Q .normal a' w') :
  ∀ (fuel:Nat) (listed:Array Bool) (st:St) (a:Act) (w:World),qY P T E ops base out fin fuel listed st→Sim P C0 M0 w0 st a w→wpAnyIn (Fen ro) n P .any ops.toArray Q fuel listed a w
 | 0,listed,st,a,w,h,hs=>⟨h.1,hQ _ _ (h.2 ▸ hs)⟩
 | fuel+1,listed,st,a,w,h,hs=>by
  refine ⟨fun h0=>hQ _ _ (h.1 h0 ▸ hs),fun j hj => ?_⟩
  obtain ⟨o,ho,hst,hr⟩:=h.2 j hj;have:=hst.op hT hE C0 M0 w0 a w hs ro n (wpAnyIn (Fen ro) n P .any ops.toArray Q fuel (listed.setIfInBounds j true)) Q (fun a' w' Cj=>qY.sound hT hE hQ fuel _ _ _ _ hr Cj)
  unfold wpOpIn;simp only [List.getElem?_toArray,ho];exact this
end
section
variable {P:Program} {T:TT} {E:Env} {C C0:Cx} {M M0:Mem} {w w0:World}

mutual
def fzA(id n:Nat)(cs:List PV):AV→AV
 | .own i=>match Nat.beq i id with
  | true => .p (.sl n cs)
  | false => .own i
 | .arr i off k=>match Nat.beq i id with
  | true => .p (.sl k ((cs.drop off).take (k*(cs.length / n))))
  | false => .arr i off k
 | .ptr i off=>match Nat.beq i id with
  | true => .rp cs off
  | false => .ptr i off
 | .agg l=>kX (fzL id n cs l)
 | .tup l => .tup (fzL id n cs l)
 | .fn f a b => .fn f (fzL id n cs a) (fzL id n cs b)
 | .p x => .p x
 | .rp cs o => .rp cs o
 | .yld l => .yld l
 | .kb b => .kb b
 | .mp i => .mp i
 | .pa i q => .pa i q
 | .any => .any
def fzL(id n:Nat)(cs:List PV):List AV→List AV
 | []=>[]
 | x::r=>fzA id n cs x::fzL id n cs r
end

theorem yE(id n:Nat)(cs:List PV):∀ l:List AV,(fzL id n cs l).length=l.length
 | []=>by simp [fzL]
 | x::r=>by simp [fzL,yE id n cs r]

section
variable {id ty n:Nat} {cs:List PV} (hM:aU P C M w) (ho:M[id]? = some (some (.row ty n cs)))
include hM ho
mutual
theorem aIx:∀ {x:AV} {u:Value},Rep C M w x u→Rep (C.close id true) (bB M id (some .dead)) w (fzA id n cs x) u
 | .own i,u,h=>by
  have hL:=hM.le (dM true ho rfl);simp only [fzA]
  split
  ·rename_i hb
   have:=Nat.eq_of_beq_eq_true hb;subst this;exact .p _ _ (xF hM ho h)
  ·exact h.mono hL
 | .arr i off k,u,h=>by
  have hL:=hM.le (dM true ho rfl);simp only [fzA]
  split
  ·rename_i hb
   have:=Nat.eq_of_beq_eq_true hb;subst this;cases h with
   | arr _ _ _ u h0 ha hrow =>
    rcases hrow _ ho rfl with ⟨rfl,p,cap,rfl,hc⟩ | ⟨b,cap,rfl,hn,hc,hb⟩
    ·rw [Nat.zero_mul,List.take_zero]
     exact .p _ _ (.sl 0 [] p cap (fun _=>undef) (Nat.zero_le _) hc (fun i h=>by simp at h) (fun i h=>by simp at h) (fun i h=>by simp at h))
    ·rcases hM.row _ _ _ _ ho with ⟨Fx,_⟩ | ⟨b',arr,inf,A4,q1,q2,q3,q4,q5,q6,q7,q8⟩
     ·rw [hb] at Fx;cases Fx
     ·rw [hb] at A4;cases A4
      have hle:cs.length≤arr.size:=by rw [q3,q4];exact Nat.mul_le_mul_right _ q5
      have hlt:∀ i,i<((cs.drop off).take (k*(cs.length / n))).length→off+i<cs.length:=fun i hi=>by simp at hi;omega
      refine .p _ _ (.sl k _ _ cap (fun j=>arr.getD (off+j) undef) hn hc (fun j hj=>⟨b,off,rfl,.inr ⟨rfl,hb⟩,cE q1 (by have:=hlt j hj;omega)⟩) (fun j hj => ?_) (fun j hj=>q8 _ (hlt j hj)))
      simp only [List.getElem_take,List.getElem_drop];exact (q7 _ (hlt j hj)).mono (fun _ h => .inl h) (fun _ _=>rfl)
  ·exact h.mono hL
 | .ptr i off,u,h=>by
  have hL:=hM.le (dM true ho rfl);simp only [fzA]
  split
  ·rename_i hb
   have:=Nat.eq_of_beq_eq_true hb;subst this;obtain ⟨b,rfl,hb⟩:=iM h (jZ ho rfl)
   rcases hM.row _ _ _ _ ho with ⟨hn,_⟩ | ⟨b',arr,inf,A4,q1,q2,q3,q4,q5,q6,q7,q8⟩
   ·rw [hb] at hn;cases hn
   ·rw [hb] at A4;cases A4
    have hle:cs.length≤arr.size:=by rw [q3,q4];exact Nat.mul_le_mul_right _ q5
    have:=Rep.rp (C:=C.close i true) (M:=bB M i (some .dead)) (w:=w) cs off b 0 (fun j=>arr.getD j undef) (fun i hi=>⟨.inr ⟨rfl,hb⟩,by rw [iC];exact cE q1 (by omega)⟩) (fun i hi=>(q7 i hi).mono (fun _ h => .inl h) (fun _ _=>rfl)) q8
    rwa [iC] at this
  ·exact h.mono hL
 | .agg l,u,h=>by
  cases h with
  | agg _ vs h0 h1 h2 =>
   simp only [fzA];obtain ⟨q1,q2⟩:=lQ (us:=fun i=>vs.getD i undef) h2
   exact mM (fun i hi=>h0 i (by omega)) (by omega) q2
 | .tup l,u,h=>by
  cases h with
  | tup _ vs h1 h2 =>
   simp only [fzA];obtain ⟨q1,q2⟩:=lQ (us:=fun i=>vs.getD i undef) h2
   exact .tup _ _ (by omega) q2
 | .fn f a b,u,h=>by
  cases h with
  | fn _ _ _ us vs h1 h2 h3 h4 =>
   simp only [fzA];obtain ⟨q1,q2⟩:=lQ (us:=fun i=>us.getD i undef) h3
   obtain ⟨r1,r2⟩:=lQ (us:=fun i=>vs.getD i undef) h4
   exact .fn f _ _ us vs (by omega) (by omega) q2 r2
 | .p x,u,h=>by simp only [fzA];exact h.mono (hM.le (dM true ho rfl))
 | .rp cs o,u,h=>by simp only [fzA];exact h.mono (hM.le (dM true ho rfl))
 | .yld l,u,h=>by simp only [fzA];exact h.mono (hM.le (dM true ho rfl))
 | .kb b,u,h=>by simp only [fzA];exact h.mono (hM.le (dM true ho rfl))
 | .mp i,u,h=>by simp only [fzA];exact h.mono (hM.le (dM true ho rfl))
 | .pa i q,u,h=>by simp only [fzA];exact h.mono (hM.le (dM true ho rfl))
 | .any,u,h=>by simp only [fzA];exact .any _
theorem lQ:∀ {l:List AV} {us:Nat→Value},(∀ i (h:i<l.length),Rep C M w l[i] (us i))→(fzL id n cs l).length=l.length∧∀ i (h:i<(fzL id n cs l).length),Rep (C.close id true) (bB M id (some .dead)) w (fzL id n cs l)[i] (us i)
 | [],_,_=>⟨yE ..,  fun i h=>by simp [fzL] at h⟩
 | x::r,us,h=>by
  refine ⟨yE ..,fun i hi => ?_⟩
  have:=hM;have:=ho;obtain ⟨_,q2⟩:=lQ (l:=r) (us:=fun i=>us (i+1)) (fun i hi=>h (i+1) (by simpa using hi))
  have e:fzL id n cs (x::r)=fzA id n cs x::fzL id n cs r:=by simp only [fzL]
  simp only [e];cases i with
  | zero=>exact aIx (h 0 (by simp))
  | succ i=>exact q2 i (by simpa [yE] using hi)
end
end

def fzO(id n:Nat)(cs:List PV):Option AO→Option AO
 | some (.box ty l)=>some (.box ty (fzL id n cs l))
 | x=>x
def Sd(id:Nat)(st:St):Option St:=match gH st.m id with
 | some r=>some ⟨fzL id r.2.1 r.2.2 st.t,(bB st.m id (some .dead)).map (fzO id r.2.1 r.2.2)⟩
 | none=>none

theorem kR{id n:Nat}{cs:List PV}{m:Mem}{j:Nat}{o':AO}(h:(m.map (fzO id n cs))[j]? = some (some o')):∃ o,m[j]? = some (some o)∧fzO id n cs (some o)=some o':=by
 rw [fV] at h
 cases hm:m[j]? with
 | none=>rw [hm] at h;cases h
 | some x =>
  rw [hm] at h
  cases x with
  | none=>simp [fzO] at h
  | some o=>exact ⟨o,rfl,by simpa using h⟩
theorem bAl{id n:Nat}{cs:List PV}{o:AO}{ty k:Nat}{ds:List PV}(h:fzO id n cs (some o)=some (.row ty k ds)):o = .row ty k ds:=by cases o <;> simp [fzO] at h ⊢;exact h
theorem qW{id n:Nat}{cs:List PV}{o o':AO}(h:fzO id n cs (some o)=some o'):o'.live=o.live:=by cases o <;> (simp [fzO] at h;subst h;rfl)

theorem bDv{id:Nat}{st Am:St}{a:Act}(hf:Sd id st=some Am)(hs:Sim P C0 M0 w0 st a w):Sim P C0 M0 w0 Am a w:=by
 obtain ⟨C,hS,hM,hF,hD⟩:=hs;unfold Sd at hf
 split at hf
 ·rename_i r hr
  cases hf;have ho:=dR hr;have hk:=dM (C:=C) (w:=w) true ho rfl;have hm:=rB hM true ho rfl;have hL:Le (C.close id true) (C.close id true) (bB st.m id (some .dead)) ((bB st.m id (some .dead)).map (fzO id r.2.1 r.2.2)) w w:=by
   refine ⟨fun i o h => ?_,fun i o h ty n cs hm => ?_,fun i o h o' hm hl => ?_,fun _ h=>h,fun _ _=>rfl⟩
   ·rw [fV,h]
    cases o <;> exact ⟨_,rfl⟩
   ·obtain ⟨o2,h2,h3⟩:=kR hm
    rw [bAl h3] at h2
    exact ⟨_,h2⟩
   ·obtain ⟨o2,h2,h3⟩:=kR hm
    rw [h] at h2;cases h2
    exact ⟨by rw [← qW h3];exact hl,rfl,rfl⟩
  have M8:Fr (C.close id true) (bB st.m id (some .dead)) w (C.close id true) ((bB st.m id (some .dead)).map (fzO id r.2.1 r.2.2)) w:=by
   refine ⟨rfl,rfl,rfl,dF _,fun _ _ _=>rfl,fun i o h=>⟨hL.ids i o h,rfl,rfl⟩,hL.row,fun i o h o' hm hl=>(hL.liv i o h o' hm hl).1,fun i o b h hl hb => ?_,fun _ h=>h,fun _ h => .inl h⟩
   obtain ⟨o2,h2,h3⟩:=kR h;exact .inr ⟨i,o2,h2,by rw [← qW h3];exact hl,hb⟩
  refine ⟨C.close id true,⟨?_,fun i hi => ?_⟩,⟨fun i ty n cs h => ?_,fun i ty cs h => ?_,fun i es cl h => ?_,fun i i' o1 o2 b h1 l1 h2 l2 => ?_,fun i o b h hl => ?_,hm.Fs,fun i o b h hl => ?_⟩,(hF.trans hk).trans M8,(hD.fr hM (gL rfl) hk).fr hm (fun i to ti sz L q=>by
   obtain ⟨o2,h2,h3⟩:=kR q;cases o2 with
   | pk=>simp only [fzO,Option.some.injEq] at h3;rw [← h3];exact h2
   | _=>simp [fzO] at h3) M8⟩
  ·rw [yE];exact hS.size
  ·exact ((lQ hM ho hS.rep).2 i hi).mono hL
  ·obtain ⟨o2,h2,h3⟩:=kR h
   rw [bAl h3] at h2
   exact hm.row _ _ _ _ h2
  ·obtain ⟨o2,h2,h3⟩:=kR h
   cases o2 with
   | box Du l =>
    simp only [fzO,Option.some.injEq,AO.box.injEq] at h3
    obtain ⟨rfl,rfl⟩:=h3;have hne:i≠id:=fun e=>by
     subst e;rw [aY] at h2;cases h2
    obtain ⟨b,arr,q0,q1,q2,q3,q4⟩:=hM.box _ _ _ ((aT st.m id i _ _ (Ne.symm hne)).1 h2);obtain ⟨r1,r2⟩:=lQ hM ho (us:=fun j=>arr.getD j undef) q3
    exact ⟨b,arr,q0,q1,by rw [r1];exact q2,fun j hj=>(r2 j hj).mono hL,fun j hj=>q4 j (by rw [r1] at hj;exact hj)⟩
   | row=>simp [fzO] at h3
   | mp=>simp [fzO] at h3
   | pk=>simp [fzO] at h3
   | dead=>simp [fzO] at h3
  ·obtain ⟨o2,h2,h3⟩:=kR h
   have:o2 = .mp es cl:=by cases o2 <;> simp [fzO] at h3 ⊢;exact h3
   subst this;obtain ⟨b,arr,q0,q1,q2,q3⟩:=hm.mp _ _ _ h2;refine ⟨b,arr,q0,q1,q2,fun j hj => ?_⟩
   obtain ⟨en,r1,r2,r3,r4⟩:=q3 j hj;exact ⟨en,r1,r2,r3,r4.mono hL.F hL.fz⟩
  ·obtain ⟨o3,h3,h4⟩:=kR h1
   obtain ⟨o5,h5,h6⟩:=kR h2;exact hm.inj i i' o3 o5 b h3 (by rw [← qW h4];exact l1) h5 (by rw [← qW h6];exact l2)
  ·obtain ⟨o3,h3,h4⟩:=kR h
   exact hm.nF i o3 b h3 (by rw [← qW h4];exact hl)
  ·obtain ⟨o3,h3,h4⟩:=kR h
   exact hm.lt i o3 b h3 (by rw [← qW h4];exact hl)
 ·cases hf

def forget:List Nat→List AV→List AV
 | [],l=>l
 | i::r,l=>forget r (l.set i .any)
theorem yF:∀ (g:List Nat) {ts:List AV} {us:Array Value},eN C M w ts us→eN C M w (forget g ts) us
 | [],_,_,h=>h
 | i::r,ts,us,h=>by
  refine yF r ⟨by simpa using h.size,fun j hj => ?_⟩
  simp only [oP] at hj
  rw [aAj]
  split
  ·exact .any _
  ·exact h.rep j hj
theorem aLs(g:List Nat){st:St}{a:Act}(hs:Sim P C0 M0 w0 st a w):Sim P C0 M0 w0 ⟨forget g st.t,st.m⟩ a w:=by
 obtain ⟨C,hS,hM,hF,hD⟩:=hs;exact ⟨C,yF g hS,hM,hF,hD⟩
end
section
variable {P:Program} {T:TT} {E:Env} {C C0:Cx} {M M0:Mem} {w w0:World}

def Cx.shut(C:Cx)(id:Nat):Cx:={ ι:=C.ι,κ:=C.κ,F:=fun b=>C.F b∨aUp (C.κ id) b }
section
variable {id to ti sz:Nat} {L:List (Nat × List PV)}
variable (q:aUq C M w id to ti sz L) (ho:M[id]? = some (some (.pk to ti sz L))) (hL:Le C (C.shut id) M (bB M id (some .dead)) w w)
include q ho hL
end

def fzP(id:Nat)(st:St):Option St:=none
theorem bDt{id:Nat}{st Am:St}{a:Act}(h:fzP id st=some Am)(hs:Sim P C0 M0 w0 st a w):Sim P C0 M0 w0 Am a w:=by
 unfold fzP at h
 cases h
def nlP(i to ti sz:Nat)(st:St):Option St:=none
theorem bDu{i to ti sz:Nat}{st Am:St}{a:Act}(h:nlP i to ti sz st=some Am)(hs:Sim P C0 M0 w0 st a w):Sim P C0 M0 w0 Am a w:=by
 unfold nlP at h
 cases h
end
section
variable {P:Program} {T:TT} {E:Env} {C C0:Cx} {M M0:Mem} {w w0:World}

inductive Cz where
 | bx (cs:List PV)
 | mp (es:List (Value × PV))
mutual
def czA(id:Nat)(y:Cz):AV→AV
 | .ptr i off=>match Nat.beq i id with
  | true=>match y with
   | .bx cs => .rp cs off
   | .mp _ => .ptr i off
  | false => .ptr i off
 | .mp i=>match Nat.beq i id with
  | true=>match y with
   | .mp es => .p (.mp es)
   | .bx _ => .mp i
  | false => .mp i
 | .agg l=>kX (czL id y l)
 | .tup l => .tup (czL id y l)
 | .fn f a b => .fn f (czL id y a) (czL id y b)
 | .own i => .own i
 | .arr i off k => .arr i off k
 | .p x => .p x
 | .rp cs o => .rp cs o
 | .yld l => .yld l
 | .kb b => .kb b
 | .pa i q => .pa i q
 | .any => .any
def czL(id:Nat)(y:Cz):List AV→List AV
 | []=>[]
 | x::r=>czA id y x::czL id y r
end
theorem yD(id:Nat)(y:Cz):∀ l:List AV,(czL id y l).length=l.length
 | []=>rfl
 | x::r=>by simp only [czL,oE,yD id y r]

def K0:AV→Option PV
 | .p x=>some x
 | .kb b=>some (.v (.bool b))
 | .rp cs off=>some (.rp cs off)
 | _=>none
def bDq:List AV→Option (List PV)
 | []=>some []
 | x::r=>match K0 x with
  | some y=>match bDq r with
   | some l=>some (y::l)
   | none=>none
  | none=>none
theorem bAj:∀ {l:List AV} {cs:List PV},bDq l=some cs→cs.length=l.length∧∀ (i:Nat) (h:i<l.length) (h':i<cs.length),K0 l[i]=some cs[i]
 | [],cs,h=>by cases h;exact ⟨rfl,fun i h=>by simp at h⟩
 | x::r,cs,h=>by
  unfold bDq at h
  split at h
  ·rename_i y hy
   split at h
   ·rename_i k hk
    cases h;obtain ⟨q1,q2⟩:=bAj hk;refine ⟨by simp [q1],fun i h1 h2 => ?_⟩
    cases i with
    | zero=>exact hy
    | succ i=>exact q2 i (by simpa using h1) (by simpa using h2)
   ·cases h
  ·cases h
theorem bQf{x:AV}{y:PV}{u:Value}(e:K0 x=some y)(h:Rep C M w x u):cM C.F w y u:=by
 cases x <;> simp [K0] at e
 ·subst e;cases h;assumption
 ·subst e;cases h;exact .rp _ _ _ _ _ ‹_› ‹_› ‹_›
 ·subst e;cases h;exact .v _
def bWn(y:Cz)(o:AO):Prop:=match y with
 | .bx cs=>∃ ty l,o = .box ty l∧bDq l=some cs
 | .mp es=>∃ cl,o = .mp es cl
theorem bWn.live{y:Cz}{o:AO}(h:bWn y o):o.live=true:=by
 cases y with
 | bx cs=>obtain ⟨ty,l,rfl,_⟩:=h;rfl
 | mp es=>obtain ⟨cl,rfl⟩:=h;rfl

section
variable {id:Nat} {y:Cz} {o:AO} (hM:aU P C M w) (ho:M[id]? = some (some o)) (hz:bWn y o)
include hM ho hz
mutual
theorem bDr:∀ {x:AV} {u:Value},Rep C M w x u→Rep (C.close id true) (bB M id (some .dead)) w (czA id y x) u
 | .ptr i off,u,h=>by
  have hL:=hM.le (dM true ho hz.live);simp only [czA]
  split
  ·rename_i hb
   have:=Nat.eq_of_beq_eq_true hb;subst this;cases y with
   | mp es=>exact h.mono hL
   | bx cs =>
    obtain ⟨ty,l,rfl,hl⟩:=hz;obtain ⟨b,rfl,hb⟩:=iM h (jZ ho rfl);obtain ⟨b',arr,A4,q1,q2,q3,q4⟩:=hM.box _ _ _ ho;rw [hb] at A4;cases A4
    obtain ⟨r1,r2⟩:=bAj hl;have:=Rep.rp (C:=C.close i true) (M:=bB M i (some .dead)) (w:=w) cs off b 0 (fun j=>arr.getD j undef) (fun i hi=>⟨.inr ⟨rfl,hb⟩,by rw [iC];exact cE q1 (by omega)⟩)
     (fun i hi=>(bQf (r2 i (by omega) hi) (q3 i (by omega))).mono (fun _ h => .inl h) (fun _ _=>rfl)) (fun i hi=>q4 i (by omega))
    rwa [iC] at this
  ·exact h.mono hL
 | .mp i,u,h=>by
  have hL:=hM.le (dM true ho hz.live);simp only [czA]
  split
  ·rename_i hb
   have:=Nat.eq_of_beq_eq_true hb;subst this;cases y with
   | bx cs=>exact h.mono hL
   | mp es =>
    obtain ⟨cl,rfl⟩:=hz;obtain ⟨b,arr,rfl,hb,q1,q2,q3⟩:=aMd hM h (bK.2 ho);refine .p _ _ (.mp es b cl arr (fun j=>(arr.getD j ⟨undef,undef,0⟩).val) (.inr ⟨rfl,hb⟩) q1 q2 (fun j hj => ?_) fun j hj => ?_)
    ·obtain ⟨e,r1,r2,r3,r4⟩:=q3 j hj
     exact ⟨e,r1,r2,r3,by rw [Cb,r1];rfl⟩
    ·obtain ⟨e,r1,r2,r3,r4⟩:=q3 j hj
     rw [Cb,r1];exact r4.mono (fun _ h => .inl h) (fun _ _=>rfl)
  ·exact h.mono hL
 | .agg l,u,h=>by
  cases h with
  | agg _ vs h0 h1 h2 =>
   simp only [czA];obtain ⟨q1,q2⟩:=lP (us:=fun i=>vs.getD i undef) h2
   exact mM (fun i hi=>h0 i (by omega)) (by omega) q2
 | .tup l,u,h=>by
  cases h with
  | tup _ vs h1 h2 =>
   simp only [czA];obtain ⟨q1,q2⟩:=lP (us:=fun i=>vs.getD i undef) h2
   exact .tup _ _ (by omega) q2
 | .fn f a b,u,h=>by
  cases h with
  | fn _ _ _ us vs h1 h2 h3 h4 =>
   simp only [czA];obtain ⟨q1,q2⟩:=lP (us:=fun i=>us.getD i undef) h3
   obtain ⟨r1,r2⟩:=lP (us:=fun i=>vs.getD i undef) h4
   exact .fn f _ _ us vs (by omega) (by omega) q2 r2
 | .own i,u,h=>by simp only [czA];exact h.mono (hM.le (dM true ho hz.live))
 | .arr i off k,u,h=>by simp only [czA];exact h.mono (hM.le (dM true ho hz.live))
 | .p x,u,h=>by simp only [czA];exact h.mono (hM.le (dM true ho hz.live))
 | .rp cs o,u,h=>by simp only [czA];exact h.mono (hM.le (dM true ho hz.live))
 | .yld l,u,h=>by simp only [czA];exact h.mono (hM.le (dM true ho hz.live))
 | .kb b,u,h=>by simp only [czA];exact h.mono (hM.le (dM true ho hz.live))
 | .pa i q,u,h=>by simp only [czA];exact h.mono (hM.le (dM true ho hz.live))
 | .any,u,h=>by simp only [czA];exact .any _
theorem lP:∀ {l:List AV} {us:Nat→Value},(∀ i (h:i<l.length),Rep C M w l[i] (us i))→(czL id y l).length=l.length∧∀ i (h:i<(czL id y l).length),Rep (C.close id true) (bB M id (some .dead)) w (czL id y l)[i] (us i)
 | [],_,_=>by
  have:=hM;have:=ho;have:=hz;exact ⟨yD ..,fun i h=>by simp [czL] at h⟩
 | x::r,us,h=>by
  refine ⟨yD ..,fun i hi => ?_⟩
  obtain ⟨_,q2⟩:=lP (l:=r) (us:=fun i=>us (i+1)) (fun i hi=>h (i+1) (by simpa using hi))
  have e:czL id y (x::r)=czA id y x::czL id y r:=by simp only [czL]
  simp only [e];cases i with
  | zero=>exact bDr (h 0 (by simp))
  | succ i=>exact q2 i (by simpa [yD] using hi)
end
end

def czO(id:Nat)(y:Cz):Option AO→Option AO
 | some (.box ty l)=>some (.box ty (czL id y l))
 | x=>x
def cDb(m:Mem)(id:Nat):Option Cz:=match cB m id with
 | some (.box _ l)=>(bDq l).map .bx
 | some (.mp es _)=>some (.mp es)
 | _=>none
def fzM(id:Nat)(st:St):Option St:=match cDb st.m id with
 | some y=>some ⟨czL id y st.t,(bB st.m id (some .dead)).map (czO id y)⟩
 | none=>none
theorem bQg{m:Mem}{id:Nat}{y:Cz}(h:cDb m id=some y):∃ o,m[id]? = some (some o)∧bWn y o:=by
 unfold cDb at h
 split at h
 ·rename_i ty l ho
  cases hl:bDq l with
  | none=>rw [hl] at h;cases h
  | some cs=>rw [hl] at h;cases h;exact ⟨_,bK.1 ho,ty,l,rfl,hl⟩
 ·rename_i es cl ho
  cases h;exact ⟨_,bK.1 ho,cl,rfl⟩
 ·cases h
theorem kQ{id:Nat}{y:Cz}{m:Mem}{j:Nat}{o':AO}(h:(m.map (czO id y))[j]? = some (some o')):∃ o,m[j]? = some (some o)∧czO id y (some o)=some o':=by
 rw [fV] at h
 cases hm:m[j]? with
 | none=>rw [hm] at h;cases h
 | some x =>
  rw [hm] at h
  cases x with
  | none=>simp [czO] at h
  | some o=>exact ⟨o,rfl,by simpa using h⟩
theorem bAk{id:Nat}{y:Cz}{o:AO}{ty k:Nat}{ds:List PV}(h:czO id y (some o)=some (.row ty k ds)):o = .row ty k ds:=by cases o <;> simp [czO] at h ⊢;exact h
theorem qV{id:Nat}{y:Cz}{o o':AO}(h:czO id y (some o)=some o'):o'.live=o.live:=by cases o <;> (simp [czO] at h;subst h;rfl)

theorem bDs{id:Nat}{st Am:St}{a:Act}(hf:fzM id st=some Am)(hs:Sim P C0 M0 w0 st a w):Sim P C0 M0 w0 Am a w:=by
 obtain ⟨C,hS,hM,hF,hD⟩:=hs;unfold fzM at hf
 split at hf
 ·rename_i y hr
  cases hf;obtain ⟨o,ho,hz⟩:=bQg hr;have hk:=dM (C:=C) (w:=w) true ho hz.live;have hm:=rB hM true ho hz.live;have hL:Le (C.close id true) (C.close id true) (bB st.m id (some .dead)) ((bB st.m id (some .dead)).map (czO id y)) w w:=by
   refine ⟨fun i o h => ?_,fun i o h ty n cs hm => ?_,fun i o h o' hm hl => ?_,fun _ h=>h,fun _ _=>rfl⟩
   ·rw [fV,h]
    cases o <;> exact ⟨_,rfl⟩
   ·obtain ⟨o2,h2,h3⟩:=kQ hm
    rw [bAk h3] at h2
    exact ⟨_,h2⟩
   ·obtain ⟨o2,h2,h3⟩:=kQ hm
    rw [h] at h2;cases h2
    exact ⟨by rw [← qV h3];exact hl,rfl,rfl⟩
  have M8:Fr (C.close id true) (bB st.m id (some .dead)) w (C.close id true) ((bB st.m id (some .dead)).map (czO id y)) w:=by
   refine ⟨rfl,rfl,rfl,dF _,fun _ _ _=>rfl,fun i o h=>⟨hL.ids i o h,rfl,rfl⟩,hL.row,fun i o h o' hm hl=>(hL.liv i o h o' hm hl).1,fun i o b h hl hb => ?_,fun _ h=>h,fun _ h => .inl h⟩
   obtain ⟨o2,h2,h3⟩:=kQ h;exact .inr ⟨i,o2,h2,by rw [← qV h3];exact hl,hb⟩
  refine ⟨C.close id true,⟨?_,fun i hi => ?_⟩,⟨fun i ty n cs h => ?_,fun i ty cs h => ?_,fun i es cl h => ?_,fun i i' o1 o2 b h1 l1 h2 l2 => ?_,fun i o b h hl => ?_,hm.Fs,fun i o b h hl => ?_⟩,(hF.trans hk).trans M8,(hD.fr hM (gL rfl) hk).fr hm (fun i to ti sz L q=>by
   obtain ⟨o2,h2,h3⟩:=kQ q;cases o2 with
   | pk=>simp only [czO,Option.some.injEq] at h3;rw [← h3];exact h2
   | _=>simp [czO] at h3) M8⟩
  ·rw [yD];exact hS.size
  ·exact ((lP hM ho hz hS.rep).2 i hi).mono hL
  ·obtain ⟨o2,h2,h3⟩:=kQ h
   rw [bAk h3] at h2
   exact hm.row _ _ _ _ h2
  ·obtain ⟨o2,h2,h3⟩:=kQ h
   cases o2 with
   | box Du l =>
    simp only [czO,Option.some.injEq,AO.box.injEq] at h3
    obtain ⟨rfl,rfl⟩:=h3;have hne:i≠id:=fun e=>by
     subst e;rw [aY] at h2;cases h2
    obtain ⟨b,arr,q0,q1,q2,q3,q4⟩:=hM.box _ _ _ ((aT st.m id i _ _ (Ne.symm hne)).1 h2);obtain ⟨r1,r2⟩:=lP hM ho hz (us:=fun j=>arr.getD j undef) q3
    exact ⟨b,arr,q0,q1,by rw [r1];exact q2,fun j hj=>(r2 j hj).mono hL,fun j hj=>q4 j (by rw [r1] at hj;exact hj)⟩
   | row=>simp [czO] at h3
   | mp=>simp [czO] at h3
   | pk=>simp [czO] at h3
   | dead=>simp [czO] at h3
  ·obtain ⟨o2,h2,h3⟩:=kQ h
   have:o2 = .mp es cl:=by cases o2 <;> simp [czO] at h3 ⊢;exact h3
   subst this;obtain ⟨b,arr,q0,q1,q2,q3⟩:=hm.mp _ _ _ h2;refine ⟨b,arr,q0,q1,q2,fun j hj => ?_⟩
   obtain ⟨en,r1,r2,r3,r4⟩:=q3 j hj;exact ⟨en,r1,r2,r3,r4.mono hL.F hL.fz⟩
  ·obtain ⟨o3,h3,h4⟩:=kQ h1
   obtain ⟨o5,h5,h6⟩:=kQ h2;exact hm.inj i i' o3 o5 b h3 (by rw [← qV h4];exact l1) h5 (by rw [← qV h6];exact l2)
  ·obtain ⟨o3,h3,h4⟩:=kQ h
   exact hm.nF i o3 b h3 (by rw [← qV h4];exact hl)
  ·obtain ⟨o3,h3,h4⟩:=kQ h
   exact hm.lt i o3 b h3 (by rw [← qV h4];exact hl)
 ·cases hf
end
section
variable {P:Program} {T:TT} {E:Env} {C C0:Cx} {M M0:Mem} {w w0:World}

def idx:List Nat→Nat→Nat→Option Nat
 | [],_,_=>none
 | j::r,i,n=>match Nat.beq j i with
  | true=>some n
  | false=>idx r i (n+1)
def rnI(k:Nat)(ids:List Nat)(i:Nat):Option Nat:=match Nat.blt i k with
 | true=>some i
 | false=>idx ids i k
mutual
def mpA(f:Nat→Option Nat):AV→Option AV
 | .own i=>(f i).map .own
 | .arr i off n=>(f i).map fun j => .arr j off n
 | .ptr i off=>(f i).map fun j => .ptr j off
 | .mp i=>(f i).map .mp
 | .pa i q=>(f i).map fun j => .pa j q
 | .agg l=>(mpL f l).map .agg
 | .tup l=>(mpL f l).map .tup
 | .fn g a b=>match mpL f a with
  | some a'=>(mpL f b).map fun b' => .fn g a' b'
  | none=>none
 | .p x=>some (.p x)
 | .rp cs o=>some (.rp cs o)
 | .yld l=>some (.yld l)
 | .kb b=>some (.kb b)
 | .any=>some .any
def mpL(f:Nat→Option Nat):List AV→Option (List AV)
 | []=>some []
 | x::r=>match mpA f x with
  | some y=>(mpL f r).map (y :: ·)
  | none=>none
end
def mpO(f:Nat→Option Nat):AO→Option AO
 | .row ty n cs=>some (.row ty n cs)
 | .box ty l=>(mpL f l).map (.box ty ·)
 | .mp es cl=>some (.mp es cl)
 | .pk to ti sz L=>some (.pk to ti sz L)
 | .dead=>some .dead
def mpM(f:Nat→Option Nat):Mem→Option Mem
 | []=>some []
 | none::r=>(mpM f r).map (none :: ·)
 | some o::r=>match mpO f o with
  | some o'=>(mpM f r).map (some o' :: ·)
  | none=>none
abbrev rnL(k:Nat)(ids:List Nat):=mpL (rnI k ids)
abbrev rnM(k:Nat)(ids:List Nat):=mpM (rnI k ids)
def at?(m:Mem)(i:Nat):Option AO:=cB m i
def distinct(k:Nat):List Nat→Bool
 | []=>true
 | i::r=>match Nat.ble k i with
  | true=>match r.all (fun j => !Nat.beq j i) with
   | true=>distinct k r
   | false=>false
  | false=>false
def firsts(m:Mem):Nat→Nat→Mem
 | 0,_=>[]
 | k+1,i=>at? m i::firsts m k (i+1)
def pick(k:Nat)(ids:List Nat)(st:St):Option St:=match distinct k ids with
 | true=>match rnL k ids st.t with
  | some t=>(rnM k ids (firsts st.m k 0++ids.map (at? st.m))).map (⟨t,·⟩)
  | none=>none
 | false=>none

theorem yC:∀ (ids:List Nat) (i n j:Nat),idx ids i n=some j→n≤j∧ids[j-n]? = some i
 | [],i,n,j,h=>by cases h
 | a::r,i,n,j,h=>by
  unfold idx at h
  split at h
  ·rename_i hb
   cases h;exact ⟨dF _,by rw [aQy];simp [Nat.eq_of_beq_eq_true hb]⟩
  ·obtain ⟨h1,h2⟩:=yC r i (n+1) j h
   refine ⟨by omega,?_⟩
   rw [show j-n=(j-(n+1))+1 by omega]
   simpa using h2
theorem jS{k:Nat}:∀ {ids:List Nat},distinct k ids=true→(∀ i∈ids,k≤i)∧ids.Nodup
 | [],_=>⟨by simp,.nil⟩
 | a::r,h=>by
  unfold distinct at h
  split at h
  ·rename_i h1
   split at h
   ·rename_i h2
    obtain ⟨h3,h4⟩:=jS h;refine ⟨fun i hi => ?_,?_⟩
    ·rcases fW.1 hi with rfl | hi
     ·exact Nat.le_of_ble_eq_true h1
     ·exact h3 i hi
    ·refine List.nodup_cons.2 ⟨fun hm => ?_,h4⟩
     have:=gB.1 h2 a hm;simp at this
   ·cases h
  ·cases h
theorem aIv(m:Mem):∀ (k i j:Nat),j<k→(firsts m k i)[j]? = some (cB m (i+j))
 | 0,i,j,h=>by omega
 | k+1,i,j,h=>by
  unfold firsts;cases j with
  | zero=>simp [at?]
  | succ j =>
   have:=aIv m k (i+1) j (by omega)
   rw [List.getElem?_cons_succ,this,show i+1+j=i+(j+1) by omega]
theorem nZ(m:Mem):∀ (k i:Nat),(firsts m k i).length=k
 | 0,_=>rfl
 | k+1,i=>by simp [firsts,nZ m k]

def oN(k:Nat)(ids:List Nat)(j:Nat):Option Nat:=if j<k then some j else ids[j-k]?
theorem aLr{k:Nat}{ids:List Nat}{i j:Nat}(h:rnI k ids i=some j):oN k ids j=some i:=by
 unfold rnI at h
 split at h
 ·rename_i hb
  cases h;have:i<k:=by simpa [Nat.blt_eq] using hb
  simp [oN,this]
 ·obtain ⟨h1,h2⟩:=yC _ _ _ _ h
  simp [oN,Nat.not_lt.2 h1,h2]
theorem bAh{k:Nat}{ids:List Nat}(hd:distinct k ids=true){j j' i:Nat}(h:oN k ids j=some i)(h':oN k ids j'=some i):j=j':=by
 obtain ⟨h1,h2⟩:=jS hd;unfold oN at h h'
 split at h <;> split at h'
 ·cases h;cases h';rfl
 ·cases h
  have:=h1 _ (Bl h');omega
 ·cases h'
  have:=h1 _ (Bl h);omega
 ·obtain ⟨q1,q2⟩:=Ca.1 h
  obtain ⟨q3,q4⟩:=Ca.1 h';have hp:=List.pairwise_iff_getElem.1 h2
  rcases Nat.lt_trichotomy (j-k) (j'-k) with hl | hl | hl
  ·exact absurd (q2.trans q4.symm) (hp _ _ q1 q3 hl)
  ·omega
  ·exact absurd (q4.trans q2.symm) (hp _ _ q3 q1 hl)

def Cx.rn(C:Cx)(k:Nat)(ids:List Nat):Cx:={ ι:=fun j=>(oN k ids j).bind C.ι,κ:=fun j=>match oN k ids j with | some i=>C.κ i | none=>0,F:=C.F }

theorem aEh{f:Nat→Option Nat}:∀ {m m':Mem},mpM f m=some m'→m'.length=m.length∧(∀ (j:Nat) (o':AO),m'[j]? = some (some o')→∃ o,m[j]? = some (some o)∧mpO f o=some o')∧(∀ (j:Nat) (o:AO),m[j]? = some (some o)→∃ o',m'[j]? = some (some o')∧mpO f o=some o')
 | [],m',h=>by cases h;exact ⟨rfl,fun j o h=>by simp at h,fun j o h=>by simp at h⟩
 | none::r,m',h=>by
  unfold mpM at h
  cases hr:mpM f r with
  | none=>rw [hr] at h;cases h
  | some r' =>
   rw [hr] at h;cases h
   obtain ⟨h1,h2,h3⟩:=aEh hr;refine ⟨by simp [h1],fun j o hj => ?_,fun j o hj => ?_⟩
   ·cases j with
    | zero=>simp at hj
    | succ j=>exact h2 j o (by simpa using hj)
   ·cases j with
    | zero=>simp at hj
    | succ j=>exact h3 j o (by simpa using hj)
 | some o::r,m',h=>by
  unfold mpM at h
  split at h
  ·rename_i o' D7
   cases hr:mpM f r with
   | none=>rw [hr] at h;cases h
   | some r' =>
    rw [hr] at h;cases h
    obtain ⟨h1,h2,h3⟩:=aEh hr;refine ⟨by simp [h1],fun j o hj => ?_,fun j o hj => ?_⟩
    ·cases j with
     | zero=>simp at hj;subst hj;exact ⟨_,rfl,D7⟩
     | succ j=>exact h2 j o (by simpa using hj)
    ·cases j with
     | zero=>simp at hj;subst hj;exact ⟨_,rfl,D7⟩
     | succ j=>exact h3 j o (by simpa using hj)
  ·cases h

theorem bV{f:Nat→Option Nat}{o o':AO}(h:mpO f o=some o'):o'.live=o.live:=by
 cases o <;> simp only [mpO,lM,Option.some.injEq] at h
 ·subst h;rfl
 ·obtain ⟨_,_,rfl⟩:=h;rfl
 ·subst h;rfl
 ·subst h;rfl
 ·subst h;rfl
theorem mF{f:Nat→Option Nat}{o:AO}{ty n:Nat}{cs:List PV}(h:mpO f o=some (.row ty n cs)):o = .row ty n cs:=by
 cases o <;> simp only [mpO,lM,Option.some.injEq] at h
 ·exact h
 ·obtain ⟨_,_,h⟩:=h;cases h
 ·cases h
 ·cases h
 ·cases h
structure bDm (f:Nat→Option Nat) (C C':Cx) (M M':Mem):Prop where
 bk:∀ (i j:Nat) (o':AO),f i=some j→M'[j]? = some (some o')→∃ o,M[i]? = some (some o)∧mpO f o=some o'
 fw:∀ (i j:Nat) (o:AO),f i=some j→M[i]? = some (some o)→∃ o',M'[j]? = some (some o')∧mpO f o=some o'
 at_:∀ i j,f i=some j→C'.ι j=C.ι i∧C'.κ j=C.κ i
 F:∀ b,C.F b→C'.F b

section
variable {f:Nat→Option Nat} {C':Cx} {M':Mem} (hm:bDm f C C' M M')
include hm
set_option linter.unusedSectionVars false in
mutual
theorem vF:∀ {x y:AV} {u:Value},Rep C M w x u→mpA f x=some y→Rep C' M' w y u
 | .own i,y,u,h,hr=>by
  simp only [mpA,lM] at hr
  obtain ⟨j,hj,rfl⟩:=hr;cases h with
  | own _ u h0 ha h =>
   obtain ⟨o,ho⟩:=ha;obtain ⟨o',D7,_⟩:=hm.fw _ _ _ hj ho;refine .own j u h0 ⟨o',D7⟩ fun ty n cs hx => ?_
   obtain ⟨o2,e2,e3⟩:=hm.bk _ _ _ hj hx;rw [mF e3] at e2
   rw [(hm.at_ _ _ hj).1,(hm.at_ _ _ hj).2];exact h _ _ _ e2
 | .arr i off n,y,u,h,hr=>by
  simp only [mpA,lM] at hr
  obtain ⟨j,hj,rfl⟩:=hr;cases h with
  | arr _ _ _ u h0 ha h =>
   obtain ⟨o,ho⟩:=ha;obtain ⟨o',D7,_⟩:=hm.fw _ _ _ hj ho;refine .arr j off n u h0 ⟨o',D7⟩ fun o3 hx hl => ?_
   obtain ⟨o2,e2,e3⟩:=hm.bk _ _ _ hj hx;rw [(hm.at_ _ _ hj).1];exact h _ e2 (by rw [← bV e3];exact hl)
 | .ptr i off,y,u,h,hr=>by
  simp only [mpA,lM] at hr
  obtain ⟨j,hj,rfl⟩:=hr;cases h with
  | ptr _ _ u h0 ha h hp =>
   obtain ⟨o,ho⟩:=ha;obtain ⟨o',D7,_⟩:=hm.fw _ _ _ hj ho;refine .ptr j off u h0 ⟨o',D7⟩ (fun o3 hx hl => ?_) hp
   obtain ⟨o2,e2,e3⟩:=hm.bk _ _ _ hj hx;rw [(hm.at_ _ _ hj).1];exact h _ e2 (by rw [← bV e3];exact hl)
 | .mp i,y,u,h,hr=>by
  simp only [mpA,lM] at hr
  obtain ⟨j,hj,rfl⟩:=hr;cases h with
  | mp _ u h0 ha h =>
   obtain ⟨o,ho⟩:=ha;obtain ⟨o',D7,_⟩:=hm.fw _ _ _ hj ho;refine .mp j u h0 ⟨o',D7⟩ fun o3 hx hl => ?_
   obtain ⟨o2,e2,e3⟩:=hm.bk _ _ _ hj hx;rw [(hm.at_ _ _ hj).1];exact h _ e2 (by rw [← bV e3];exact hl)
 | .pa i q,y,u,h,hr=>by
  simp only [mpA,lM] at hr
  obtain ⟨j,hj,rfl⟩:=hr;cases h with
  | pa _ _ u h0 ha h =>
   obtain ⟨o,ho⟩:=ha;obtain ⟨o',D7,_⟩:=hm.fw _ _ _ hj ho;refine .pa j q u h0 ⟨o',D7⟩ fun o3 hx hl => ?_
   obtain ⟨o2,e2,e3⟩:=hm.bk _ _ _ hj hx;rw [(hm.at_ _ _ hj).2];exact h _ e2 (by rw [← bV e3];exact hl)
 | .agg l,y,u,h,hr=>by
  simp only [mpA,lM] at hr
  obtain ⟨l',hl,rfl⟩:=hr;cases h with
  | agg _ vs h0 h1 h4 =>
   obtain ⟨q1,q2⟩:=gV (us:=fun i=>vs.getD i undef) h4 hl
   exact .agg _ _ (fun i hi=>h0 i (by omega)) (by omega) q2
 | .tup l,y,u,h,hr=>by
  simp only [mpA,lM] at hr
  obtain ⟨l',hl,rfl⟩:=hr;cases h with
  | tup _ vs h1 h4 =>
   obtain ⟨q1,q2⟩:=gV (us:=fun i=>vs.getD i undef) h4 hl
   exact .tup _ _ (by omega) q2
 | .fn g a b,y,u,h,hr=>by
  simp only [mpA] at hr
  split at hr
  ·rename_i a' ha
   simp only [lM] at hr
   obtain ⟨b',hb,rfl⟩:=hr;cases h with
   | fn _ _ _ us vs h1 h4 h5 h6 =>
    obtain ⟨q1,q2⟩:=gV (us:=fun i=>us.getD i undef) h5 ha
    obtain ⟨r1,r2⟩:=gV (us:=fun i=>vs.getD i undef) h6 hb
    exact .fn g _ _ us vs (by omega) (by omega) q2 r2
  ·cases hr
 | .p x,y,u,h,hr=>by simp only [mpA] at hr;cases hr;cases h with | p _ _ h=>exact .p _ _ (h.mono hm.F (fun _ _=>rfl))
 | .rp cs o,y,u,h,hr=>by
  simp only [mpA] at hr;cases hr
  cases h with | rp _ _ b o us h1 h2 h3=>exact .rp cs _ b o us (fun i hi=>⟨hm.F _ (h1 i hi).1,(h1 i hi).2⟩) (fun i hi=>(h2 i hi).mono hm.F (fun _ _=>rfl)) h3
 | .yld l,y,u,h,hr=>by simp only [mpA] at hr;cases hr;cases h;exact .yld _
 | .kb b,y,u,h,hr=>by simp only [mpA] at hr;cases hr;cases h;exact .kb _
 | .any,y,u,h,hr=>by simp only [mpA] at hr;cases hr;exact .any _
theorem gV:∀ {l ys:List AV} {us:Nat→Value},(∀ i (h:i<l.length),Rep C M w l[i] (us i))→mpL f l=some ys→ys.length=l.length∧∀ i (h:i<ys.length),Rep C' M' w ys[i] (us i)
 | [],_,_,_,hr=>by simp only [mpL] at hr;cases hr;exact ⟨rfl,fun i h=>by simp at h⟩
 | x::r,ys,us,h,hr=>by
  simp only [mpL] at hr
  split at hr
  ·rename_i y hy
   simp only [lM] at hr
   obtain ⟨r',Hj,rfl⟩:=hr;obtain ⟨q1,q2⟩:=gV (us:=fun i=>us (i+1)) (fun i hi=>h (i+1) (by simpa using hi)) Hj
   refine ⟨by simp [q1],fun i hi => ?_⟩
   cases i with
   | zero=>exact vF (h 0 (by simp)) hy
   | succ i=>exact q2 i (by simpa using hi)
  ·cases hr
end
end

theorem tC{k:Nat}{ids:List Nat}{M':Mem}(hM:aU P C M w)(hd:distinct k ids=true)(D3:rnM k ids (firsts M k 0++ids.map (at? M))=some M') :
  aU P (C.rn k ids) M' w∧bDm (rnI k ids) C (C.rn k ids) M M'∧∀ (j:Nat) (o':AO),M'[j]? = some (some o')→∃ i o,oN k ids j=some i∧M[i]? = some (some o)∧mpO (rnI k ids) o=some o':=by
 obtain ⟨g1,g2,g3⟩:=aEh D3;have hat:∀ (i j:Nat) (o:AO),oN k ids j=some i→((firsts M k 0++ids.map (at? M))[j]? = some (some o)↔M[i]? = some (some o)):=fun i j o hs=>by
  unfold oN at hs
  split at hs
  ·rename_i hj
   cases hs;rw [aAh (by rw [nZ];exact hj),aIv _ _ _ _ hj,iC,Option.some.injEq,bK]
  ·rename_i hj
   rw [xJ (by rw [nZ];omega),nZ,fV,hs,Option.map_some,Option.some.injEq]
   exact bK
 have hsrc:∀ (j:Nat) (o:AO),(firsts M k 0++ids.map (at? M))[j]? = some (some o)→∃ i,oN k ids j=some i:=fun j o hj=>by
  unfold oN
  split
  ·exact ⟨_,rfl⟩
  ·obtain ⟨hl,_⟩:=Ca.1 hj
   rw [iJ,nZ,Co] at hl
   exact ⟨_,Ay (by omega)⟩
 have h2:∀ (j:Nat) (o':AO),M'[j]? = some (some o')→∃ i o,oN k ids j=some i∧M[i]? = some (some o)∧mpO (rnI k ids) o=some o':=fun j o' hj=>by
  obtain ⟨o,q1,q2⟩:=g2 j o' hj;obtain ⟨i,hi⟩:=hsrc j o q1;exact ⟨i,o,hi,(hat i j o hi).1 q1,q2⟩
 have hi:∀ j i,oN k ids j=some i→(C.rn k ids).ι j=C.ι i∧(C.rn k ids).κ j=C.κ i:=fun j i h=>by simp [Cx.rn,h]
 have hmp:bDm (rnI k ids) C (C.rn k ids) M M':=⟨fun i j o' hf hj=>by
  obtain ⟨i',o,q1,q2,q3⟩:=h2 j o' hj;rw [aLr hf] at q1;cases q1
  exact ⟨o,q2,q3⟩,fun i j o hf ho=>g3 j o ((hat i j o (aLr hf)).2 ho),fun i j hf=>hi j i (aLr hf),fun _ h=>h⟩
 refine ⟨⟨fun j ty n cs h => ?_,fun j ty cs h => ?_,fun j es cl h => ?_,fun j j' o1 o2 b q1 l1 q2 l2 e1 e2 => ?_,fun j o b h hl hb => ?_,hM.Fs,fun j o b h hl hb => ?_⟩,hmp,h2⟩
 ·obtain ⟨i,o,q1,q2,q3⟩:=h2 _ _ h
  rw [mF q3] at q2
  obtain ⟨r1,r2⟩:=hi j i q1;rw [r1,r2];exact hM.row _ _ _ _ q2
 ·obtain ⟨i,o,q1,q2,q3⟩:=h2 _ _ h
  obtain ⟨r1,r2⟩:=hi j i q1;cases o with
  | box Du l =>
   simp only [mpO,lM] at q3
   obtain ⟨l',Ed,e⟩:=q3;cases e;obtain ⟨b,arr,p0,p1,p2,p3,p4⟩:=hM.box _ _ _ q2;obtain ⟨n1,n2⟩:=gV hmp (w:=w) (us:=fun j=>arr.getD j undef) p3 Ed
   exact ⟨b,arr,by rw [r1];exact p0,p1,by omega,n2,fun j hj=>p4 j (by omega)⟩
  | row=>simp [mpO] at q3
  | mp=>simp [mpO] at q3
  | pk=>simp [mpO] at q3
  | dead=>simp [mpO] at q3
 ·obtain ⟨i,o,q1,q2,q3⟩:=h2 _ _ h
  obtain ⟨r1,r2⟩:=hi j i q1;cases o with
  | mp Cw Ef =>
   simp only [mpO,Option.some.injEq] at q3
   cases q3;obtain ⟨b,arr,p0,p1,p2,p3⟩:=hM.mp _ _ _ q2;exact ⟨b,arr,by rw [r1];exact p0,p1,p2,p3⟩
  | row=>simp [mpO] at q3
  | box=>simp [mpO] at q3
  | pk=>simp [mpO] at q3
  | dead=>simp [mpO] at q3
 ·obtain ⟨i,o,q3,q4,q5⟩:=h2 _ _ q1
  obtain ⟨i',o',q6,q7,q8⟩:=h2 _ _ q2;rw [(hi _ _ q3).1] at e1
  rw [(hi _ _ q6).1] at e2
  have:=hM.inj i i' o o' b q4 (by rw [← bV q5];exact l1) q7 (by rw [← bV q8];exact l2) e1 e2
  subst this;exact bAh hd q3 q6
 ·obtain ⟨i,o',q3,q4,q5⟩:=h2 _ _ h
  rw [(hi _ _ q3).1] at hb
  exact hM.nF i o' b q4 (by rw [← bV q5];exact hl) hb
 ·obtain ⟨i,o',q3,q4,q5⟩:=h2 _ _ h
  rw [(hi _ _ q3).1] at hb
  exact hM.lt i o' b q4 (by rw [← bV q5];exact hl) hb

theorem aTu{k:Nat}{ids:List Nat}{st Am:St}{a:Act}(hk:M0.length≤k)(hp:pick k ids st=some Am)(hs:Sim P C0 M0 w0 st a w):Sim P C0 M0 w0 Am a w:=by
 obtain ⟨C,hS,hM,hF,hD⟩:=hs;unfold pick at hp
 split at hp
 ·rename_i hd
  split at hp
  ·rename_i t ht
   simp only [lM] at hp
   obtain ⟨M',D3,rfl⟩:=hp;obtain ⟨Hh,hmp,h2⟩:=tC hM hd D3;obtain ⟨t1,t2⟩:=gV hmp (w:=w) (us:=fun i=>a.tmps.getD i undef) hS.rep ht
   have hi:∀ j i,oN k ids j=some i→(C.rn k ids).ι j=C.ι i∧(C.rn k ids).κ j=C.κ i:=fun j i h=>by simp [Cx.rn,h]
   have small:∀ (i:Nat) (o:AO),M0[i]? = some (some o)→oN k ids i=some i∧rnI k ids i=some i:=fun i o h=>by
    obtain ⟨hl,_⟩:=Ca.1 h;have hik:i<k:=by omega
    have hb:Nat.blt i k=true:=by rw [Nat.blt_eq];exact hik
    exact ⟨by simp [oN,hik],by simp only [rnI,hb]⟩
   refine ⟨C.rn k ids,⟨by rw [hS.size];exact t1.symm,t2⟩,Hh,
    ⟨hF.os,hF.tape,hF.out,hF.size,hF.keep,fun i o h => ?_,fun i o h ty n cs hx => ?_,fun i o h o' hx hl => ?_,fun j o b h hl hb => ?_,hF.F1,hF.F2⟩,hD.1,fun p hp => ?_,?_⟩
   ·obtain ⟨⟨o',q1⟩,q2,q3⟩:=hF.ids i o h
    obtain ⟨o2,q4,_⟩:=hmp.fw i i o' (small i o h).2 q1;obtain ⟨r1,r2⟩:=hi i i (small i o h).1;exact ⟨⟨o2,q4⟩,r1.trans q2,r2.trans q3⟩
   ·obtain ⟨i',o',q3,q4,q5⟩:=h2 _ _ hx
    rw [(small i o h).1] at q3;cases q3
    rw [mF q5] at q4
    exact hF.row _ _ h _ _ _ q4
   ·obtain ⟨i',o2,q3,q4,q5⟩:=h2 _ _ hx
    rw [(small i o h).1] at q3;cases q3
    exact hF.liv _ _ h _ q4 (by rw [← bV q5];exact hl)
   ·obtain ⟨i,o',q3,q4,q5⟩:=h2 _ _ h
    rw [(hi _ _ q3).1] at hb
    exact hF.new i o' b q4 (by rw [← bV q5];exact hl) hb
   ·obtain ⟨r1,r2,r3,r4,r5⟩:=hD.2.1 p hp
    refine ⟨r1,r2,r3,r4,fun j o h hl hb => ?_⟩
    obtain ⟨i,o',q3,q4,q5⟩:=h2 _ _ h;rw [(hi _ _ q3).1] at hb
    exact r5 i o' q4 (by rw [← bV q5];exact hl) hb
   ·have lv:∀ (j:Nat) (o:AO),M'[j]? = some (some o)→o.live=true→∃ i o',oN k ids j=some i∧st.m[i]? = some (some o')∧o'.live=true:=fun j o h hl=>by
     obtain ⟨i,o',q3,q4,q5⟩:=h2 _ _ h;exact ⟨i,o',q3,q4,by rw [← bV q5];exact hl⟩
    have pk:∀ (j to ti sz:Nat) (L:List (Nat × List PV)),M'[j]? = some (some (.pk to ti sz L))→∃ i,oN k ids j=some i∧st.m[i]? = some (some (.pk to ti sz L)):=fun j to ti sz L h=>by
     obtain ⟨i,o',q3,q4,q5⟩:=h2 _ _ h;refine ⟨i,q3,?_⟩;cases o' with
     | pk=>simp only [mpO,Option.some.injEq] at q5;rw [← q5];exact q4
     | box=>simp [mpO] at q5
     | _=>simp [mpO] at q5
    refine ⟨fun j to ti sz L h => ?_,fun j j' to ti sz Sa Sb Sc L L' h h' hne b hb A4 => ?_⟩
    ·obtain ⟨i,q3,q4⟩:=pk _ _ _ _ _ h
     obtain ⟨p,p0,p1⟩:=hD.2.2.1 _ _ _ _ _ q4;obtain ⟨r1,r2⟩:=hi j i q3;refine ⟨p.move (r1.trans p.io) r2 (fun _ h=>h) (fun _ _=>rfl) fun b hb=>⟨rfl,(p.own b hb).1,fun j2 o2 ho hl => ?_⟩,fun o ho => ?_,by rw [r2];exact p1⟩
     ·obtain ⟨i2,o3,s1,s2,s3⟩:=lv j2 o2 ho hl
      rw [(hi _ _ s1).1];exact (p.own b hb).2 i2 o3 s2 s3
     ·have:=(small j o ho).1
      rw [this] at q3;cases q3
      exact p0 o ho
    ·obtain ⟨i,q3,q4⟩:=pk _ _ _ _ _ h
     obtain ⟨i',L5,Wc⟩:=pk _ _ _ _ _ h';rw [(hi j i q3).2] at hb
     rw [(hi j' i' L5).2] at A4
     refine hD.2.2.2 _ _ _ _ _ _ _ _ _ _ q4 Wc (fun e=>hne ?_) b hb A4
     subst e;exact bAh hd q3 L5
  ·cases hp
 ·cases hp

def aIw:List Nat→St→Option St
 | [],st=>some st
 | i::r,st=>match Sd i st with
  | some Am=>aIw r Am
  | none=>match fzP i st with
   | some Am=>aIw r Am
   | none=>match fzM i st with
    | some Am=>aIw r Am
    | none=>none
def nlC(id off ty:Nat)(st:St):Option St:=match st.m[id]? with
 | some (some (.box bty cs))=>match cs[off]? with
  | some (.p (.v (.slice none 0 0)))=>match Nat.beq ty 99999 with
   | true=>some ⟨st.t,bB st.m id (some (.box bty (cs.set off (.p (.sl 0 [])))))⟩
   | false=>match fY st.m st.m.length with
    | true=>some ⟨st.t,bB (bB st.m st.m.length (some (.row ty 0 []))) id (some (.box bty (cs.set off (.own st.m.length))))⟩
    | false=>none
  | some (.kb b)=>some ⟨st.t,bB st.m id (some (.box bty (cs.set off (.p (.v (.bool b))))))⟩
  | _=>none
 | _=>none
def nlS(i ty:Nat)(st:St):Option St:=match st.t[i]? with
 | some (.p (.v (.slice none 0 0)))=>match Nat.beq ty 99999 with
  | true=>some ⟨st.t.set i (.p (.sl 0 [])),st.m⟩
  | false=>match fY st.m st.m.length with
   | true=>some ⟨st.t.set i (.own st.m.length),bB st.m st.m.length (some (.row ty 0 []))⟩
   | false=>none
 | some (.kb b)=>some ⟨st.t.set i (.p (.v (.bool b))),st.m⟩
 | _=>none
def Se(i ty:Nat)(st:St):Option St:=match Nat.ble 100000 i with
 | true=>nlC ((i-100000) / 1000) ((i-100000) % 1000) ty st
 | false=>match Nat.ble 1000000000 ty with
  | true=>nlP i ((ty-1000000000) / 1000000) ((ty-1000000000) / 100 % 10000) ((ty-1000000000) % 100) st
  | false=>nlS i ty st
def bAi:List (Nat × Nat)→St→Option St
 | [],st=>some st
 | (i,ty)::r,st=>match Se i ty st with
  | some Am=>bAi r Am
  | none=>none
def gh(k:Nat)(g:Gh)(st:St):Option St:=match aIw g.fz st with
 | some st1=>match bAi g.nl st1 with
  | some st2=>pick k g.ids ⟨forget g.fg st2.t,st2.m⟩
  | none=>none
 | none=>none
theorem aEi(hM:aU P C M w){id bty off:Nat}{cs:List AV}{x:AV}(hb:M[id]? = some (some (.box bty cs)))(hoff:off<cs.length)
  (hx:∀ u,Rep C M w cs[off] u→Rep C (bB M id (some (.box bty (cs.set off x)))) w x u):aU P C (bB M id (some (.box bty (cs.set off x)))) w∧Fr C M w C (bB M id (some (.box bty (cs.set off x)))) w:=by
 have hold:∀ (i:Nat) (o:AO),i≠id→(bB M id (some (.box bty (cs.set off x))))[i]? = some (some o)→M[i]? = some (some o):=fun i o h=>(aT M id i _ o (fun e=>h e.symm)).1
 have hnew:∀ (o:AO),(bB M id (some (.box bty (cs.set off x))))[id]? = some (some o)→o = .box bty (cs.set off x):=fun o h=>by rw [aY] at h;cases h;rfl
 have hliv:∀ (i:Nat) (o:AO),(bB M id (some (.box bty (cs.set off x))))[i]? = some (some o)→o.live=true→∃ o1,M[i]? = some (some o1)∧o1.live=true:=fun i o h hl=>by
  by_cases e:i=id
  ·subst e;exact ⟨_,hb,rfl⟩
  ·exact ⟨o,hold i o e h,hl⟩
 have f:Fr C M w C (bB M id (some (.box bty (cs.set off x)))) w:=by
  refine ⟨rfl,rfl,rfl,dF _,fun _ _ _=>rfl,fun i o h=>⟨?_,rfl,rfl⟩,fun i o h ty n M7 hm => ?_,fun i o h o' h' hl => ?_,fun i o b h hl hbb => ?_,fun b h=>h,fun b h => .inl h⟩
  ·by_cases e:i=id
   ·subst e;exact ⟨_,aY ..⟩
   ·exact ⟨o,(aT M id i _ o (fun e'=>e e'.symm)).2 h⟩
  ·by_cases e:i=id
   ·subst e;cases hnew _ hm
   ·exact ⟨M7,hold i _ e hm⟩
  ·obtain ⟨o1,q1,q2⟩:=hliv i o' h' hl
   rw [h] at q1;cases q1;exact q2
  ·obtain ⟨o1,q1,q2⟩:=hliv i o h hl
   exact .inr ⟨i,o1,q1,q2,hbb⟩
 have hL:=hM.le f;refine ⟨⟨fun i ty n M7 hm => ?_,fun i ty M7 hm => ?_,fun i es cl hm => ?_,fun i i' o1 o2 b hm hl D3 Ed h1 h2 => ?_,fun i o b hm hl hbb => ?_,hM.Fs,fun i o b hm hl hbb => ?_⟩,f⟩
 ·by_cases e:i=id
  ·subst e;cases hnew _ hm
  ·exact hM.row _ _ _ _ (hold i _ e hm)
 ·by_cases e:i=id
  ·subst e
   cases hnew _ hm;obtain ⟨b,arr,q0,q1,q2,q3,q4⟩:=hM.box _ _ _ hb;refine ⟨b,arr,q0,q1,by simpa using q2,fun j hj => ?_,fun j hj=>q4 j (by simpa using hj)⟩
   rw [aAj]
   split
   ·rename_i e2;subst e2;exact hx _ (q3 _ hoff)
   ·exact (q3 j (by simpa using hj)).mono hL
  ·obtain ⟨b,arr,q0,q1,q2,q3,q4⟩:=hM.box _ _ _ (hold i _ e hm)
   exact ⟨b,arr,q0,q1,q2,fun j hj=>(q3 j hj).mono hL,q4⟩
 ·by_cases e:i=id
  ·subst e;cases hnew _ hm
  ·obtain ⟨b,arr,q0,q1,q2,q3⟩:=hM.mp _ _ _ (hold i _ e hm)
   refine ⟨b,arr,q0,q1,q2,fun j hj => ?_⟩
   obtain ⟨en,r1,r2,r3,r4⟩:=q3 j hj;exact ⟨en,r1,r2,r3,r4.mono hL.F hL.fz⟩
 ·obtain ⟨x1,y1,z1⟩:=hliv i o1 hm hl
  obtain ⟨x2,y2,z2⟩:=hliv i' o2 D3 Ed;exact hM.inj _ _ _ _ _ y1 z1 y2 z2 h1 h2
 ·obtain ⟨x1,y1,z1⟩:=hliv i o hm hl
  exact hM.nF _ _ _ y1 z1 hbb
 ·obtain ⟨x1,y1,z1⟩:=hliv i o hm hl
  exact hM.lt _ _ _ y1 z1 hbb
theorem bDn{id off ty:Nat}{st Am:St}{a:Act}(h:nlC id off ty st=some Am)(hs:Sim P C0 M0 w0 st a w):Sim P C0 M0 w0 Am a w:=by
 obtain ⟨C,hS,hM,hF,hD⟩:=hs;unfold nlC at h
 split at h
 ·rename_i bty cs hi
  split at h
  ·rename_i hc
   split at h
   ·cases h
    obtain ⟨hoff,hcv⟩:=Ca.1 hc;obtain ⟨Iz,f2⟩:=aEi hM hi hoff (x := .p (.sl 0 [])) (fun u hu=>by
     rw [hcv] at hu
     cases hu with
     | p _ _ h =>
      cases h;exact .p _ _ (.sl 0 [] none 0 (fun _=>undef) (dF _) (Nat.zero_le _) (fun i hi=>by simp at hi) (fun i hi=>by simp at hi) (fun i hi=>by simp at hi)))
    exact ⟨C,hS.le (hM.le f2),Iz,hF.trans f2,hD.fr hM (gL rfl) f2⟩
   ·split at h
    ·rename_i hb
     cases h;have hf:=cZ hb;have f:=yR (C:=C) (w:=w) (ty:=ty) hf;have Cp:=yS (ty:=ty) hM hf;have hne:id≠st.m.length:=fun e=>hf _ (e ▸ hi)
     have Ik:(bB st.m st.m.length (some (.row ty 0 [])))[id]? = some (some (.box bty cs)):=(aT st.m st.m.length id _ _ (fun e=>hne e.symm)).2 hi
     obtain ⟨hoff,hcv⟩:=Ca.1 hc;have hnw:(bB (bB st.m st.m.length (some (.row ty 0 []))) id (some (.box bty (cs.set off (.own st.m.length)))))[st.m.length]? = some (some (.row ty 0 [])):=(aT _ id st.m.length _ _ hne).2 (aY ..);obtain ⟨Iz,f2⟩:=aEi Cp Ik hoff (x := .own st.m.length) (fun u hu=>by
      rw [hcv] at hu
      cases hu with
      | p _ _ h =>
       cases h;exact .own _ _ rfl ⟨_,hnw⟩ fun ty n cs h=>by rw [hnw] at h;cases h;exact .inl ⟨rfl,by simp [Cx.nil],rfl⟩)
     exact ⟨C.nil st.m.length,(hS.le (hM.le f)).le (Cp.le f2),Iz,(hF.trans f).trans f2,hD.fr hM ((gL rfl).trans (gL rfl)) (f.trans f2)⟩
    ·cases h
  ·rename_i b hc
   cases h;obtain ⟨hoff,hcv⟩:=Ca.1 hc;obtain ⟨Iz,f2⟩:=aEi hM hi hoff (x := .p (.v (.bool b))) (fun u hu=>by
    rw [hcv] at hu
    cases hu;exact .p _ _ (.v _))
   exact ⟨C,hS.le (hM.le f2),Iz,hF.trans f2,hD.fr hM (gL rfl) f2⟩
  ·cases h
 ·cases h
theorem bDo{i ty:Nat}{st Am:St}{a:Act}(h:nlS i ty st=some Am)(hs:Sim P C0 M0 w0 st a w):Sim P C0 M0 w0 Am a w:=by
 obtain ⟨C,hS,hM,hF,hD⟩:=hs;unfold nlS at h
 split at h
 ·rename_i hi
  split at h
  ·cases h
   refine ⟨C,⟨by simpa using hS.size,fun j hj => ?_⟩,hM,hF,hD⟩
   simp only [oP] at hj
   rw [aAj]
   split
   ·rename_i e
    subst e;have hr:=hS.at hi
    generalize a.tmps.getD i undef=u at hr ⊢
    cases hr with
    | p _ _ h =>
     cases h;exact .p _ _ (.sl 0 [] none 0 (fun _=>undef) (dF _) (Nat.zero_le _) (fun i hi=>by simp at hi) (fun i hi=>by simp at hi) (fun i hi=>by simp at hi))
   ·exact hS.rep j hj
  ·split at h
   ·rename_i hb
    cases h;have hf:=cZ hb;have f:=yR (C:=C) (w:=w) (ty:=ty) hf;have hL:=hM.le f;refine ⟨C.nil st.m.length,⟨by simpa using hS.size,fun j hj => ?_⟩,yS hM hf,hF.trans f,hD.fr hM (gL rfl) f⟩
    simp only [oP] at hj
    rw [aAj]
    split
    ·rename_i e
     subst e;have hr:=hS.at hi
     generalize a.tmps.getD i undef=u at hr ⊢
     cases hr with
     | p _ _ h =>
      cases h;exact .own _ _ rfl ⟨_,aY ..⟩ fun ty n cs h=>by rw [aY] at h;cases h;exact .inl ⟨rfl,by simp [Cx.nil],rfl⟩
    ·exact (hS.rep j hj).mono hL
   ·cases h
 ·rename_i b hi
  cases h;refine ⟨C,⟨by simpa using hS.size,fun j hj => ?_⟩,hM,hF,hD⟩
  simp only [oP] at hj
  rw [aAj]
  split
  ·rename_i e
   subst e;have hr:=hS.at hi
   generalize a.tmps.getD i undef=u at hr ⊢
   cases hr;exact .p _ _ (.v _)
  ·exact hS.rep j hj
 ·cases h
theorem bDp{i ty:Nat}{st Am:St}{a:Act}(h:Se i ty st=some Am)(hs:Sim P C0 M0 w0 st a w):Sim P C0 M0 w0 Am a w:=by
 unfold Se at h
 split at h
 ·exact bDn h hs
 ·split at h
  ·exact bDu h hs
  ·exact bDo h hs
theorem aBu:∀ (l:List (Nat × Nat)) {st Am:St} {a:Act},bAi l st=some Am→Sim P C0 M0 w0 st a w→Sim P C0 M0 w0 Am a w
 | [],st,Am,a,h,hs=>by cases h;exact hs
 | (i,ty)::r,st,Am,a,h,hs=>by
  unfold bAi at h
  split at h
  ·rename_i h1
   exact aBu r h (bDp h1 hs)
  ·cases h
theorem oU:∀ (l:List Nat) {st Am:St} {a:Act},aIw l st=some Am→Sim P C0 M0 w0 st a w→Sim P C0 M0 w0 Am a w
 | [],st,Am,a,h,hs=>by cases h;exact hs
 | i::r,st,Am,a,h,hs=>by
  unfold aIw at h
  split at h
  ·rename_i h1
   exact oU r h (bDv h1 hs)
  ·split at h
   ·rename_i h1
    exact oU r h (bDt h1 hs)
   ·split at h
    ·rename_i h1
     exact oU r h (bDs h1 hs)
    ·cases h
theorem eX{k:Nat}{g:Gh}{st Am:St}{a:Act}(hk:M0.length≤k)(h:gh k g st=some Am)(hs:Sim P C0 M0 w0 st a w):Sim P C0 M0 w0 Am a w:=by
 unfold gh at h
 split at h
 ·rename_i h1
  split at h
  ·rename_i h2
   exact aTu hk h (aLs g.fg (aBu _ h2 (oU _ h1 hs)))
  ·cases h
 ·cases h
end
section
variable {P:Program} {T:TT} {E:Env} {C C0:Cx} {M M0:Mem} {w w0:World}

theorem bQd(hM:aU P C M w){w1:World}(hw:w1.heap=w.heap):aU P C M w1∧Le C C M M w w1:=by
 have hL:Le C C M M w w1:=⟨fun _ o h=>⟨o,h⟩,fun _ _ _ _ _ cs h=>⟨cs,h⟩,fun _ o h o' h' hl=>by rw [h] at h';cases h';exact ⟨hl,rfl,rfl⟩,fun _ h=>h,fun _ _=>by rw [hw]⟩
 have hsz:w1.heap.size=w.heap.size:=by rw [hw]
 refine ⟨⟨fun i Du n cs hm => ?_,fun i Du cs hm => ?_,fun i es cl hm => ?_,hM.inj,hM.nF,fun b hb=>by rw [hsz];exact hM.Fs b hb,fun i x b hm hl hb=>by rw [hsz];exact hM.lt i x b hm hl hb⟩,hL⟩
 ·rcases hM.row _ _ _ _ hm with h4 | ⟨b,arr,inf,q0,q1,q2,q3,q4,q5,q6,q7,q8⟩
  ·exact .inl h4
  ·exact .inr ⟨b,arr,inf,q0,by rw [hw];exact q1,q2,q3,q4,q5,q6,fun j hj=>(q7 j hj).mono hL.F hL.fz,q8⟩
 ·obtain ⟨b,arr,q0,q1,q2,q3,q4⟩:=hM.box _ _ _ hm
  exact ⟨b,arr,q0,by rw [hw];exact q1,q2,fun j hj=>(q3 j hj).mono hL,q4⟩
 ·obtain ⟨b,arr,q0,q1,q2,q3⟩:=hM.mp _ _ _ hm
  refine ⟨b,arr,q0,by rw [hw];exact q1,q2,fun j hj => ?_⟩
  obtain ⟨en,r1,r2,r3,r4⟩:=q3 j hj;exact ⟨en,r1,r2,r3,r4.mono hL.F hL.fz⟩
theorem bAg{w1:World}(hw:w1.heap=w.heap)(ho:w1.os=w.os)(ht:w1.tape=w.tape)(hu:w1.output=w.output):Fr C M w C M w1 :=
 ⟨ho,ht,hu,by rw [hw];exact dF _,fun b _ _=>by rw [hw],fun _ x h=>⟨⟨x,h⟩,rfl,rfl⟩,fun _ _ _ _ _ cs h=>⟨cs,h⟩,fun _ o h o' h' hl=>by rw [h] at h';cases h';exact hl,fun i x _ h hl hb => .inr ⟨i,x,h,hl,hb⟩,fun _ h=>h,fun _ h => .inl h⟩

theorem Sim.drawn{st:St}{a:Act}(h:Sim P C0 M0 w0 st a w)(k:Nat):Sim P C0 M0 w0 st a { w with drawn:=k }:=by
 obtain ⟨C,hS,hM,hF,hD⟩:=h;obtain ⟨m,l⟩:=bQd hM (w1:={ w with drawn:=k }) rfl
 exact ⟨C,hS.le l,m,hF.trans (bAg rfl rfl rfl rfl),hD.fr hM .refl (bAg rfl rfl rfl rfl)⟩

def bWk(ops:Array Oper)(k:Nat)(o:Oper):List Oper→Bool
 | []=>true
 | y::r=>(o.apart ops y || y.after.toList.any fun e=>Region.binds .any e && e.on == k) && bWk ops k o r
def bWl(ops:Array Oper):Nat→List Oper→Bool
 | _,[]=>true
 | k,o::r=>(o.after.toList.all fun e => !Region.binds .any e || Nat.blt e.on k) && bWk ops k o r && bWl ops (k+1) r
def cDa(ops:Array Oper):Bool:=Region.noSelect ops && bWl ops 0 ops.toList
theorem aIs{ops:Array Oper}{k:Nat}{o:Oper}:∀ {r:List Oper},bWk ops k o r=true→∀ y∈r,(y.after.any fun e=>Region.binds .any e && e.on == k)=true∨o.apart ops y=true
 | [],_,y,hy=>by cases hy
 | z::r,h,y,hy=>by
  unfold bWk at h
  rw [Ce,wB] at h
  rcases fW.1 hy with rfl | hy
  ·rcases h.1 with h1 | h1
   ·exact .inr h1
   ·rw [Array.any_toList] at h1;exact .inl h1
  ·exact aIs h.2 y hy
theorem aIt{ops:Array Oper}:∀ (r:List Oper) (k:Nat) (listed:Array Bool),ops.toList.drop k=r→k+r.length=ops.size→listed.size=ops.size→(∀ j,j<ops.size→listed[j]? = some (decide (j<k))) →
  bWl ops k r=true→Region.lexFrom .any ops r.length k listed=true
 | [],k,listed,hd,hk,hz,hl,h=>by
  show (Region.ready .any ops listed).isEmpty=true;unfold Region.ready;rw [List.isEmpty_iff,List.filter_eq_nil_iff];intro i hi;have hi:=iN.1 hi;have h1:listed.getD i true=true:=by
   rw [Cb,hl i hi];have:k=ops.size:=by simpa using hk
   simp;omega
  rw [h1];simp
 | o::r,k,listed,hd,hk,hz,hl,h=>by
  unfold bWl at h
  rw [Ce,Ce] at h
  obtain ⟨⟨h1,h2⟩,h3⟩:=h;rw [oE] at hk
  have hko:ops[k]? = some o:=by
   have:(ops.toList.drop k)[0]? = some o:=by rw [hd];rfl
   rw [List.getElem?_drop] at this
   simpa using this
  have hdr:ops.toList.drop (k+1)=r:=by
   have:=congrArg List.tail hd;rw [List.tail_drop] at this
   exact this
  have hlk:listed.getD k true=false:=by
   rw [Cb,hl k (by omega)];simp
  show ((Region.ready .any ops listed).contains k && Region.free .any ops listed k && Region.lexFrom .any ops r.length (k+1) (listed.setIfInBounds k true))=true;rw [Ce,Ce];refine ⟨⟨?_,?_⟩,?_⟩
  ·rw [List.contains_iff_mem]
   unfold Region.ready;rw [kY];refine ⟨iN.2 (by omega),?_⟩
   rw [hlk,hko];show (!false && o.after.all fun e => !Region.binds .any e || listed.getD e.on false)=true
   rw [Bool.not_false,gS,← Array.all_toList,gB];intro e he;have:=gB.1 h1 e he;rw [wB] at this ⊢
   rcases this with q | q
   ·exact .inl q
   ·have q:e.on<k:=by simpa using q
    refine .inr ?_;rw [Cb,hl e.on (by omega)]
    simp [q]
  ·unfold Region.free
   rw [hko];show ((List.range ops.size).all _)=true;rw [gB];intro j hj;have hj:=iN.1 hj
   rcases Nat.lt_trichotomy j k with q | q | q
   ·have:listed.getD j true=true:=by rw [Cb,hl j hj];simp [q]
    rw [this];simp
   ·subst q;simp
   ·obtain ⟨y,hy⟩:∃ y,ops[j]? = some y:=⟨_,rY hj⟩
    rw [hy];have hm:y∈r:=by
     rw [← hdr];have:(ops.toList.drop (k+1))[j-(k+1)]? = some y:=by
      rw [List.getElem?_drop,show k+1+(j-(k+1))=j by omega]
      simpa using hy
     exact Bl this
    have:=aIs h2 y hm;show (j == k || listed.getD j true || ((y.after.any fun e=>Region.binds .any e && e.on == k) || o.apart ops y))=true
    rw [wB,wB (_) (o.apart ops y)];exact .inr this
  ·refine aIt r (k+1) _ hdr (by omega) (by rw [Array.size_setIfInBounds];exact hz) (fun j hj => ?_) h3
   rw [Array.getElem?_setIfInBounds]
   by_cases q:k=j
   ·subst q
    rw [if_pos rfl,if_pos (by omega)];simp
   ·rw [if_neg q,hl j hj]
    congr 1
    rw [decide_eq_decide];omega
theorem zY{ops:Array Oper}(h:cDa ops=true):Region.lexB .any ops=true:=by
 unfold cDa at h
 rw [Ce] at h
 unfold Region.lexB;rw [Ce];refine ⟨h.1,?_⟩;have:=aIt ops.toList 0 (Array.replicate ops.size false) rfl (by simp) (by simp) (fun j hj=>by simp [hj]) h.2
 simpa using this
def aPg(P:Program)(T:TT)(E:Env)(ops:Array Oper)(draw:Bool)(st:St):Ask St:=match draw with
 | false=>bEm P T E ops.toList ops.toList st
 | true=>do
  lift (if cDa ops then some () else none)
  let r ← aTw P T E ops.toList ops.toList st.m.length st
  lift (if aLu ops 0 r.1 then some () else none)
  pure r.2

def Ex.toExit:Ex→Exit
 | .normal => .normal
 | .ret => .ret
 | .exit id => .exit id

def aIu(body:St→Ask (Ex × St)):Nat→St→Ask (Ex × St)
 | 0,_=>fail
 | n+1,st=>do
  let r ← body st
  match r.1 with
  | .normal=>aIu body n r.2
  | e=>pure (e,r.2)

def bWm:Op→Bool
 | .makeMap _ _=>true
 | .lookup _ _ _ _=>true
 | .mapUpdate _ _ _ _=>true
 | _=>false
def nrf:Code→Bool
 | .region _ ops _=>ops.toList.all fun o => !bWm o.op
 | .seq a b=>nrf a && nrf b
 | .cond _ a b=>nrf a && nrf b
 | .block _ b=>nrf b
 | .loop b=>nrf b
 | .scope b=>nrf b
 | .rangeFunc _ _ _ _=>false
 | _=>true
def mU(ro:Option Nat)(c:Code):Prop:=ro=none∨nrf c=true
section
variable {ro:Option Nat} {a b:Code} {x:Operand} {id:Nat}
theorem mU.seq1(h:mU ro (.seq a b)):mU ro a:=h.imp (fun h=>h) fun h=>by unfold nrf at h;rw [Ce] at h;exact h.1
theorem mU.seq2(h:mU ro (.seq a b)):mU ro b:=h.imp (fun h=>h) fun h=>by unfold nrf at h;rw [Ce] at h;exact h.2
theorem mU.cond1(h:mU ro (.cond x a b)):mU ro a:=h.imp (fun h=>h) fun h=>by unfold nrf at h;rw [Ce] at h;exact h.1
theorem mU.cond2(h:mU ro (.cond x a b)):mU ro b:=h.imp (fun h=>h) fun h=>by unfold nrf at h;rw [Ce] at h;exact h.2
theorem mU.block(h:mU ro (.block id b)):mU ro b:=h
theorem mU.loop(h:mU ro (.loop b)):mU ro b:=h
theorem mU.scope(h:mU ro (.scope b)):mU ro b:=h
end

def aC(P:Program)(k:Nat)(c:Code)(st:St)(e:Ex)(Am:St):Prop:=∀ (C0:Cx) (M0:Mem) (w0:World) (a:Act) (w:World),M0.length≤k→Sim P C0 M0 w0 st a w→∀ (ro:Option Nat),mU ro c→∀ (n:Nat),c.wpIn (Fen ro) n P (fun e' a' w'=>e'=e.toExit∧Sim P C0 M0 w0 Am a' w') a w

def aHw(P:Program)(k:Nat)(c:Code)(m:St→Ask (Ex × St))(st:St):Ask (Ex × St):=fun s=>match s.auto with
 | true=>m st s
 | false=>match s.o with
  | .k 0 g e Am::r=>match gh k g st with
   | some st1=>some ((e,Am),{ s with o:=r,obs:=aC P k c st1 e Am::s.obs })
   | none=>none
  | .k (n+1) g e Am::r=>m st { s with o := .k n g e Am::r }
  | .g 0 g::r=>match gh k g st with
   | some st1=>m st1 { s with o:=r }
   | none=>none
  | .g (n+1) g::r=>m st { s with o := .g n g::r }
  | _=>m st s
def sZ{α:Type}(m:Ask α):Ask α:=fun s=>match s.auto with
 | true=>m s
 | false=>none

def aCs(P:Program)(T:TT)(E:Env)(k fuel:Nat):Code→St→Ask (Ex × St)
 | .skip,st=>pure (.normal,st)
 | .region id ops d,st=>aHw P k (.region id ops d) (fun st=>do let Am ← aPg P T E ops d st;pure (.normal,Am)) st
 | .seq a b,st=>aHw P k (.seq a b) (fun st=>do
  let r ← aCs P T E k fuel a st
  match r.1 with
  | .normal=>aCs P T E k fuel b r.2
  | e=>pure (e,r.2)) st
 | .cond c a b,st=>aHw P k (.cond c a b) (fun st=>do
  let x ← lift (ev st c)
  let d ← aUz x
  match d with
  | true=>aCs P T E k fuel a st
  | false=>aCs P T E k fuel b st) st
 | .block id b,st=>aHw P k (.block id b) (fun st=>do
  let r ← aCs P T E k fuel b st
  match r.1 with
  | .exit i=>match Nat.beq i id with
   | true=>pure (.normal,r.2)
   | false=>pure (.exit i,r.2)
  | e=>pure (e,r.2)) st
 | .loop b,st=>aHw P k (.loop b) (fun st=>sZ (aIu (fun st=>aCs P T E k fuel b st) fuel st)) st
 | .exit id,st=>pure (.exit id,st)
 | .label _,st=>pure (.normal,st)
 | .scope b,st=>aCs P T E k fuel b st
 | .ret,st=>pure (.ret,st)
 | c,st=>aHw P k c (fun _=>fail) st

theorem aC.pre{k:Nat}{c:Code}{st st1 Am:St}{e:Ex}{g:Gh}(hg:gh k g st=some st1)(h:aC P k c st1 e Am):aC P k c st e Am:=fun C0 M0 w0 a w hk hs ro hro n=>h C0 M0 w0 a w hk (eX hk hg hs) ro hro n
theorem aC.post{k:Nat}{c:Code}{st st1 Am:St}{e:Ex}{g:Gh}(hg:gh k g st1=some Am)(h:aC P k c st e st1):aC P k c st e Am:=fun C0 M0 w0 a w hk hs ro hro n=>wpIn_mono (h C0 M0 w0 a w hk hs ro hro n) (fun _ _ _ hq=>⟨hq.1,eX hk hg hq.2⟩)
theorem lO{k:Nat}{c:Code}{m:St→Ask (Ex × St)}(hm:∀ {st Am:St} {e:Ex} {s s':AS},m st s=some ((e,Am),s')→bD s'→aC P k c st e Am){st Am:St}{e:Ex}{s s':AS}(h:aHw P k c m st s=some ((e,Am),s'))(g:bD s'):aC P k c st e Am:=by
 unfold aHw at h
 cases ha:s.auto with
 | true=>rw [ha] at h;exact hm h g
 | false =>
  rw [ha] at h
  dsimp only at h
  split at h
  ·split at h
   ·rename_i hg
    cases h;exact (g.tail.1).pre hg
   ·cases h
  ·exact hm h g
  ·split at h
   ·rename_i hg
    exact (hm h g).pre hg
   ·cases h
  ·exact hm h g
  ·exact hm h g
theorem nU{k:Nat}{c:Code}{m:St→Ask (Ex × St)}(hm:∀ st,cK (m st))(st:St):cK (aHw P k c m st):=fun s r s' h p hp=>by
 unfold aHw at h
 cases ha:s.auto with
 | true=>rw [ha] at h;exact hm _ _ _ _ h p hp
 | false =>
  rw [ha] at h
  dsimp only at h
  split at h
  ·split at h
   ·cases h;exact Ch _ hp
   ·cases h
  ·exact hm _ _ _ _ h p hp
  ·split at h
   ·exact hm _ _ _ _ h p hp
   ·cases h
  ·exact hm _ _ _ _ h p hp
  ·exact hm _ _ _ _ h p hp
theorem bDl{α:Type}{m:Ask α}(hm:cK m):cK (sZ m):=fun s r s' h p hp=>by
 unfold sZ at h
 split at h
 ·exact hm _ _ _ h p hp
 ·cases h
theorem bQe{α:Type}{m:Ask α}{s s':AS}{r:α}(h:sZ m s=some (r,s')):m s=some (r,s'):=by
 unfold sZ at h
 split at h
 ·exact h
 ·cases h

theorem aTs(hT:∀ t i,T t=some i→cQ P t=some i)(hE:nG P E)(hm:P.follows .mixedOrders=true){id:Nat}{ops:Array Oper}{d:Bool}{st Am:St}{s s':AS}(h:aPg P T E ops d st s=some (Am,s'))(g:bD s'){k:Nat}:aC P k (.region id ops d) st .normal Am:=by
 intro C0 M0 w0 a w _ hs ro hro n;cases d with
 | false =>
  refine wpIn_region ?_;have:=wZ hT hE ops.toList 0 (fun j=>by simp) h g C0 M0 w0 a w hs ro n (fun e' a' w'=>e'=Ex.normal.toExit∧Sim P C0 M0 w0 Am a' w') (fun a' w' h'=>⟨rfl,h'⟩)
  simpa using this
 | true =>
  obtain ⟨_,s1,h1,k1⟩:=aE h;obtain ⟨e1,rfl⟩:=aH h1;obtain ⟨r,s2,h2,k2⟩:=aE k1;obtain ⟨_,s3,h3,k3⟩:=aE k2;obtain ⟨e3,rfl⟩:=aH h3;obtain ⟨rfl,rfl⟩:=aL k3;obtain ⟨hB,_⟩:=bY e1;obtain ⟨hA,_⟩:=bY e3;obtain ⟨os,hfts,hlex⟩:=tE ops.toList _ (fts:=r.1) (fin:=r.2) h2 g
  replace hB:=zY hB
  unfold Region.lexB at hB
  rw [Ce] at hB
  have hlen:os.length=ops.toList.length:=by
   have:∀ {l:List Oper} {id:Nat} {st:St} {os:List yG} {fin:St},aPh P T E ops.toList id l st os fin→os.length=l.length:=by
    intro l
    induction l with
    | nil=>intro id st os fin h;cases h;rfl
    | cons o l ih=>intro id st os fin h;cases h with | cons _ _ _ _ q os _ h hr=>simp [ih hr]
   exact this hlex
  have key:qY P T E ops.toList st.m.length (fun k=>os.getD k (.any,[],none)) r.2 ops.toList.length (Array.replicate ops.size false) st:=by
   refine qY.lex ops.toList 0 _ st os (fun j=>by simp) (fun j q hj=>by simp [B5,hj]) (fun j hj=>absurd hj (aVh _)) (fun j oj hj hl => ?_) (fun i j _ hij hj => ?_) (by simpa using hB.2) (by simpa [ido] using hlex)
   ·exfalso
    rcases Nat.lt_or_ge j ops.size with h' | h'
    ·simp [h'] at hl
    ·simp [Nat.not_lt.2 h'] at hl
   have Ee:j<os.length:=by
    rw [hlen];obtain ⟨o,ho⟩:=Option.isSome_iff_exists.1 hj;exact (Ca.1 ho).1
   have:=oV r.1 0 hA i j (aEj os[i]) (aEj os[j]) hij (by rw [hfts,fV,Ay (by omega)];rfl) (by rw [hfts,fV,Ay Ee];rfl)
   rw [iC,iC] at this
   simp only [B5,Ay Ee,Ay (show i<os.length by omega),Option.getD_some,Array.toArray_toList]
   exact this
  refine wpIn_region_any hm ?_;have:=qY.sound hT hE (C0:=C0) (M0:=M0) (w0:=w0) (ro:=ro) (n:=n) (Q:=fun e' a' w'=>e'=Ex.normal.toExit∧Sim P C0 M0 w0 r.2 a' w') (fun a' w' h'=>⟨rfl,h'⟩) _ _ _ a _ key (hs.drawn (w.drawn+1))
  simpa using this

theorem kH{b:Frame}{a:Act}{k:List Item}{cs:List Frame}{c:Code}:step P (lone (b.atR a (.code (.scope c)::k)) cs w) = .next (lone (b.atR a (.code c :: .inScope c::k)) cs w) :=
 step_lone_go (by simp [stepG,stepG.exec,Frame.atR])
theorem aHx{b:Frame}{a:Act}{k:List Item}{cs:List Frame}{c:Code}:step P (lone (b.atR a (.inScope c::k)) cs w) = .next (lone (b.atR a k) cs w) :=
 step_lone_go (by simp [stepG,stepG.exec,Frame.atR])
theorem aTt{F:Fence}{n:Nat}{c:Code}{Q:Exit→Act→World→Prop}{a:Act}(h:c.wpIn F n P (fun e a w=>(∀ l,e ≠ .goto l)∧Q e a w) a w):(Code.scope c).wpIn F n P Q a w:=by
 intro b k cs hro hb hr;have h0:(lone (b.atR a (.code (.scope c)::k)) cs w).fenced P F:=fenced_calm hb hr rfl;obtain ⟨e,a₁,w₁,⟨hg,hq⟩,harr⟩:=h b (.inScope c::k) cs hro hb hr;cases e with
 | normal=>exact ⟨.normal,a₁,w₁,hq,.head h0 kH (StepsIn.trans harr (.one (fenced_calm hb hr rfl) aHx))⟩
 | exit id =>
  have hx:exitTo id (.inScope c::k)=exitTo id k:=by simp [exitTo]
  exact ⟨.exit id,a₁,w₁,hq,fun k' hk => .head h0 kH (harr.1 k' (by rw [hx];exact hk)),
   fun Hj hk=>let ⟨k₁,h1,h2⟩:=harr.2 Hj (by rw [hx];exact hk);⟨k₁,h1,.head h0 kH h2⟩⟩
 | goto l=>exact absurd rfl (hg l)
 | ret=>exact ⟨_,a₁,w₁,hq,.of_steps (.one h0 kH) harr⟩
 | panic ch=>exact ⟨_,a₁,w₁,hq,.of_steps (.one h0 kH) harr⟩
 | outgrown=>exact ⟨_,a₁,w₁,hq,.of_steps (.one h0 kH) harr⟩

def LoopIn(F:Fence)(n:Nat)(P:Program)(c:Code)(Q:Exit→Act→World→Prop)(a:Act)(w:World):Prop :=
 ∀ (b:Frame) (k:List Item) (cs:List Frame),b.roundOf=F.round→F.fn b.fn→F.room (cs.length+1+n) →
  ∃ e a' w',Q e a' w'∧ArrivesIn (Machine.fenced P F) P (lone (b.atR a (.code c :: .inLoop c::k)) cs w) b k cs e a' w'

theorem LoopIn.step{F:Fence}{n:Nat}{c:Code}{Q:Exit→Act→World→Prop}{a:Act}(h:c.wpIn F n P (Exit.then (LoopIn F n P c Q) Q) a w):LoopIn F n P c Q a w:=by
 intro b k cs hro hb hr;obtain ⟨e,a₁,w₁,hq,harr⟩:=h b (.inLoop c::k) cs hro hb hr;cases e with
 | normal =>
  obtain ⟨e₂,a₂,w₂,hq₂,harr₂⟩:=hq b k cs hro hb hr;exact ⟨e₂,a₂,w₂,hq₂,.of_steps (StepsIn.trans harr (.one (fenced_calm hb hr rfl) stepR_inLoop)) harr₂⟩
 | exit id=>exact ⟨_,a₁,w₁,hq,.pass (x := .inLoop c) rfl (fun _ _ => .inl (by simp)) harr⟩
 | goto l=>exact ⟨_,a₁,w₁,hq,.pass (x := .inLoop c) rfl (fun _ _ => .inl (by simp)) harr⟩
 | ret=>exact ⟨_,a₁,w₁,hq,.pass (x := .inLoop c) rfl (fun _ _ => .inl (by simp)) harr⟩
 | panic ch=>exact ⟨_,a₁,w₁,hq,.pass (x := .inLoop c) rfl (fun _ _ => .inl (by simp)) harr⟩
 | outgrown=>exact ⟨_,a₁,w₁,hq,.pass (x := .inLoop c) rfl (fun _ _ => .inl (by simp)) harr⟩
theorem LoopIn.wp{F:Fence}{n:Nat}{c:Code}{Q:Exit→Act→World→Prop}{a:Act}(h:LoopIn F n P c Q a w):(Code.loop c).wpIn F n P Q a w:=by
 intro b k cs hro hb hr;obtain ⟨e,a',w',hq,harr⟩:=h b k cs hro hb hr;exact ⟨e,a',w',hq,.of_steps (.one (fenced_calm hb hr rfl) stepR_loop) harr⟩
end
section
variable {P:Program} {T:TT} {E:Env} {C C0:Cx} {M M0:Mem} {w w0:World}

theorem bDk{ops:Array Oper}{d:Bool}{st:St}:cK (aPg P T E ops d st):=by
 unfold aPg;split
 ·exact vL
 ·exact aN fun _=>bH qX fun _=>aN fun _=>aO _
theorem wW{b:St→Ask (Ex × St)}(h:∀ st,cK (b st)):∀ (n:Nat) (st:St),cK (aIu b n st)
 | 0,_=>aW
 | n+1,st=>by
  unfold aIu;refine bH (h st) fun r => ?_
  split
  ·exact wW h n _
  ·exact aO _
theorem vE{k fuel:Nat}:∀ (c:Code) (st:St),cK (aCs P T E k fuel c st):=by
 intro c
 induction c with
 | skip=>exact fun st=>aO _
 | region id ops d=>exact nU fun st=>bH bDk fun _=>aO _
 | seq a b iha ihb =>
  refine nU fun st => ?_
  refine bH (iha st) fun r => ?_
  split
  ·exact ihb _
  ·exact aO _
 | cond c a b iha ihb =>
  refine nU fun st => ?_
  refine aN fun _=>bH aUi fun _ => ?_
  split
  ·exact iha _
  ·exact ihb _
 | block id b ih =>
  refine nU fun st => ?_
  refine bH (ih st) fun r => ?_
  split
  ·split <;> exact aO _
  ·exact aO _
 | loop b ih=>exact nU fun st=>bDl (wW ih _ _)
 | exit id=>exact fun st=>aO _
 | label l=>exact fun st=>aO _
 | scope b ih=>exact ih
 | ret=>exact fun st=>aO _
 | _=>exact nU fun st=>aW

theorem aBt{K:Nat}{c:Code}{b:St→Ask (Ex × St)}(hm:∀ st,cK (b st))(h:∀ {st e Am s s'},b st s=some ((e,Am),s')→bD s'→aC P K c st e Am):∀ (n:Nat) {st:St} {e:Ex} {Am:St} {s s':AS},aIu b n st s=some ((e,Am),s')→bD s' →
  ∀ (C0:Cx) (M0:Mem) (w0:World) (a:Act) (w:World),M0.length≤K→Sim P C0 M0 w0 st a w→∀ (ro:Option Nat),mU ro c→∀ (k:Nat),LoopIn (Fen ro) k P c (fun e' a' w'=>e'=e.toExit∧e' ≠ .normal∧Sim P C0 M0 w0 Am a' w') a w
 | 0,st,e,Am,s,s',h0,_=>(aX h0).elim
 | n+1,st,e,Am,s,s',h0,g=>by
  intro C0 M0 w0 a w hK hs ro hro k;unfold aIu at h0
  obtain ⟨⟨e1,st1⟩,s1,h1,k1⟩:=aE h0;refine LoopIn.step ?_;cases e1 with
  | normal =>
   have g1:=(wW hm n st1).good k1 g;have ih:=aBt hm h n k1 g C0 M0 w0;refine wpIn_mono (h h1 g1 C0 M0 w0 a w hK hs ro hro k) ?_;rintro e' a' w' ⟨rfl,Cj⟩;exact ih a' w' hK Cj ro hro k
  | ret =>
   obtain ⟨he,rfl⟩:=aL k1;cases he;refine wpIn_mono (h h1 g C0 M0 w0 a w hK hs ro hro k) ?_;rintro e' a' w' ⟨rfl,Cj⟩;exact ⟨rfl,nofun,Cj⟩
  | exit id =>
   obtain ⟨he,rfl⟩:=aL k1;cases he;refine wpIn_mono (h h1 g C0 M0 w0 a w hK hs ro hro k) ?_;rintro e' a' w' ⟨rfl,Cj⟩;exact ⟨rfl,nofun,Cj⟩

theorem aEg(hT:∀ t i,T t=some i→cQ P t=some i)(hE:nG P E)(hm:P.follows .mixedOrders=true){k fuel:Nat}:∀ (c:Code) {st:St} {e:Ex} {Am:St} {s s':AS},aCs P T E k fuel c st s=some ((e,Am),s')→bD s'→aC P k c st e Am:=by
 intro c
 induction c with
 | skip =>
  intro st e Am s s' h g C0 M0 w0 a w hk hs ro hro n;obtain ⟨he,rfl⟩:=aL h;cases he;exact wpIn_skip ⟨rfl,hs⟩
 | region id ops d =>
  intro st e Am s s' h g;refine lO ?_ h g;intro st Am e s s' h g;obtain ⟨st1,s1,h1,k1⟩:=aE h;obtain ⟨he,rfl⟩:=aL k1;cases he;exact aTs hT hE hm h1 g
 | seq a b iha ihb =>
  intro st e Am s s' h g;refine lO ?_ h g;intro st Am e s s' h g C0 M0 w0 ac w hk hs ro hro n;obtain ⟨⟨e1,st1⟩,s1,h1,k1⟩:=aE h;refine wpIn_seq ?_;cases e1 with
  | normal =>
   have g1:=(vE b st1).good k1 g;refine wpIn_mono (iha h1 g1 C0 M0 w0 ac w hk hs ro hro.seq1 n) ?_;rintro e' a' w' ⟨rfl,Cj⟩;exact ihb k1 g C0 M0 w0 a' w' hk Cj ro hro.seq2 n
  | ret =>
   obtain ⟨he,rfl⟩:=aL k1;cases he;refine wpIn_mono (iha h1 g C0 M0 w0 ac w hk hs ro hro.seq1 n) ?_;rintro e' a' w' ⟨rfl,Cj⟩;exact ⟨rfl,Cj⟩
  | exit id =>
   obtain ⟨he,rfl⟩:=aL k1;cases he;refine wpIn_mono (iha h1 g C0 M0 w0 ac w hk hs ro hro.seq1 n) ?_;rintro e' a' w' ⟨rfl,Cj⟩;exact ⟨rfl,Cj⟩
 | cond c a b iha ihb =>
  intro st e Am s s' h g;refine lO ?_ h g;intro st Am e s s' h g C0 M0 w0 ac w hk hs ro hro n;obtain ⟨x,s1,h1,k1⟩:=aE h;obtain ⟨e1,rfl⟩:=aH h1;obtain ⟨d,s2,h2,k2⟩:=aE k1;have Oa:=hs;obtain ⟨C,hS,_⟩:=Oa;cases d with
  | true =>
   obtain ⟨hb,_⟩:=rW (hS.ev e1) h2 ((vE a st).good k2 g);exact wpIn_cond_true hb (iha k2 g C0 M0 w0 ac w hk hs ro hro.cond1 n)
  | false =>
   obtain ⟨hb,_⟩:=rW (hS.ev e1) h2 ((vE b st).good k2 g);exact wpIn_cond_false hb (ihb k2 g C0 M0 w0 ac w hk hs ro hro.cond2 n)
 | block id b ih =>
  intro st e Am s s' h g;refine lO ?_ h g;intro st Am e s s' h g C0 M0 w0 ac w hk hs ro hro n;obtain ⟨⟨e1,st1⟩,s1,h1,k1⟩:=aE h;refine wpIn_block ?_;cases e1 with
  | normal =>
   obtain ⟨he,rfl⟩:=aL k1;cases he;refine wpIn_mono (ih h1 g C0 M0 w0 ac w hk hs ro hro.block n) ?_;rintro e' a' w' ⟨rfl,Cj⟩;exact ⟨rfl,Cj⟩
  | ret =>
   obtain ⟨he,rfl⟩:=aL k1;cases he;refine wpIn_mono (ih h1 g C0 M0 w0 ac w hk hs ro hro.block n) ?_;rintro e' a' w' ⟨rfl,Cj⟩;exact ⟨rfl,Cj⟩
  | exit i =>
   dsimp only at k1
   cases hb:Nat.beq i id with
   | true =>
    rw [hb] at k1
    obtain ⟨he,rfl⟩:=aL k1;cases he;have hid:i=id:=Nat.eq_of_beq_eq_true hb;refine wpIn_mono (ih h1 g C0 M0 w0 ac w hk hs ro hro.block n) ?_;rintro e' a' w' ⟨rfl,Cj⟩;simp only [Ex.toExit,Exit.inBlock,hid,if_true];exact ⟨trivial,Cj⟩
   | false =>
    rw [hb] at k1
    obtain ⟨he,rfl⟩:=aL k1;cases he;have hid:i≠id:=Nat.ne_of_beq_eq_false hb;refine wpIn_mono (ih h1 g C0 M0 w0 ac w hk hs ro hro.block n) ?_;rintro e' a' w' ⟨rfl,Cj⟩;simp only [Ex.toExit,Exit.inBlock,hid,if_false];exact ⟨trivial,Cj⟩
 | loop b ih =>
  intro st e Am s s' h g;refine lO ?_ h g;intro st Am e s s' h g C0 M0 w0 ac w hk hs ro hro n;refine wpIn_mono (LoopIn.wp (aBt (vE b) ih fuel (bQe h) g C0 M0 w0 ac w hk hs ro hro.loop n)) ?_;rintro e' a' w' ⟨h1,_,h2⟩;exact ⟨h1,h2⟩
 | exit id =>
  intro st e Am s s' h g C0 M0 w0 a w hk hs ro hro n;obtain ⟨he,rfl⟩:=aL h;cases he;exact wpIn_exit ⟨rfl,hs⟩
 | label l =>
  intro st e Am s s' h g C0 M0 w0 a w hk hs ro hro n;obtain ⟨he,rfl⟩:=aL h;cases he;exact wpIn_label ⟨rfl,hs⟩
 | scope b ih =>
  intro st e Am s s' h g C0 M0 w0 a w hk hs ro hro n;refine aTt (wpIn_mono (ih h g C0 M0 w0 a w hk hs ro hro.scope n) ?_);rintro e' a' w' ⟨rfl,Cj⟩;exact ⟨fun l=>by cases e <;> simp [Ex.toExit],rfl,Cj⟩
 | ret =>
  intro st e Am s s' h g C0 M0 w0 a w hk hs ro hro n;obtain ⟨he,rfl⟩:=aL h;cases he;exact wpIn_ret ⟨rfl,hs⟩
 | _ =>
  intro st e Am s s' h g;refine lO ?_ h g;intro st Am e s s' h g;exact (aX h).elim
end
section
variable {P:Program} {T:TT} {E:Env} {C C0:Cx} {M M0:Mem} {w w0:World}

def cNl(T:TT)(st:St):ResultVar→Ask AV
 | .tmp t=>lift st.t[t]?
 | .cell a t=>do
  let x ← lift st.t[a]?
  vload T st.m t x
def aTp(T:TT)(st:St):List ResultVar→Ask (List AV)
 | []=>pure []
 | r::l=>do
  let x ← cNl T st r
  let xs ← aTp T st l
  pure (x::xs)
def bQc:List AV→AV
 | [x]=>x
 | l => .tup l

def aIr:Mem→Bool
 | []=>true
 | some (.pk _ _ _ _)::_=>false
 | _::r=>aIr r
theorem qU:∀ {m:Mem},aIr m=true→aUe m
 | [],_,i,o,h=>by simp at h
 | none::r,hm,i,o,h=>by
  cases i with
  | zero=>simp at h
  | succ i=>exact qU (m:=r) hm i o (by simpa using h)
 | some x::r,hm,i,o,h=>by
  cases i with
  | zero =>
   simp at h;subst h
   cases x with
   | pk=>simp [aIr] at hm
   | _=>rfl
  | succ i =>
   refine qU (m:=r) ?_ i o (by simpa using h)
   cases x with
   | pk=>simp [aIr] at hm
   | _=>simpa [aIr] using hm
def aTq(P:Program)(T:TT)(E:Env)(fuel:Nat)(fn:Func)(c:Code)(args:List AV)(m:Mem):Ask (AV × Mem):=do
 lift (if aIr m=true then some () else none)
 let r ← aCs P T E m.length fuel c ⟨args++List.replicate (fn.ntmps-args.length) .any,m⟩
 match r.1 with
 | .exit _=>fail
 | _=>do
  let l ← aTp T r.2 fn.results.toList
  pure (bQc l,r.2.m)

def FMM(P:Program)(f:Nat)(args:List AV)(M:Mem)(r:AV)(M':Mem):Prop :=
 ∀ (C:Cx) (w:World) (us:List Value),dL C M w args us→aU P C M w→∀ n,CallsIn Fence.wide n P f us.toArray w (fun e w'=>∃ u,e = .returned u∧∃ C',Fr C M w C' M' w'∧aU P C' M' w'∧Rep C' M' w' r u)

def wV(P:Program)(f:Nat)(args:List AV)(M:Mem)(r:AV)(M':Mem):Prop :=
 ∀ (C:Cx) (w:World) (us:List Value),dL C M w args us→aU P C M w→∀ n,CallsIn Fence.wide n P f us.toArray w (fun e w'=>∃ u,e = .returned u∧∃ C',Fr C M w C' M' w'∧aU P C' M' w'∧Rep C' M' w' r u∧oA (C.with []) M M' C' w w')
theorem wV.fmm{f:Nat}{args:List AV}{M M':Mem}{r:AV}(h:wV P f args M r M'):FMM P f args M r M':=fun C w us hus hM n=>(h C w us hus hM n).mono fun _ w' ⟨u,q,C',h1,h2,h3,_⟩=>⟨u,q,C',h1,h2,h3⟩

theorem zX{st:St}:∀ (l:List ResultVar),cK (aTp T st l)
 | []=>aO _
 | r::l=>by
  unfold aTp;refine bH ?_ fun _=>bH (zX l) fun _=>aO _
  cases r with
  | tmp t=>exact nW _
  | cell a t=>exact aN fun _=>aEw

def aEe(tmps:Array Value):ResultVar→Sem Value
 | .tmp t=>pure (tmps.getD t undef)
 | .cell a t=>do loadVar t (← asAddr (tmps.getD a undef))

theorem bDj{t:Nat}{y x:AV}{u:Value}{s s':AS}(h:vload T M t y s=some (x,s'))(hy:Rep C M w y u):∃ p,u = .pointer (some p):=by
 unfold vload at h
 obtain ⟨i,s1,h1,k1⟩:=aE h
 split at k1
 ·rename_i id off
  obtain ⟨o,s2,h2,k2⟩:=aE k1;obtain ⟨e2,rfl⟩:=aH h2;have hl:o.live=true:=by
   cases o with
   | dead=>exact (aX k2).elim
   | _=>rfl
  obtain ⟨b,hu,_⟩:=iM hy (jZ (eL e2) hl);exact ⟨_,hu⟩
 ·cases hy;exact ⟨_,rfl⟩
 ·exact (aX k1).elim

theorem aTr(hT:∀ t i,T t=some i→cQ P t=some i)(hM:aU P C M w){ts:List AV}{us:Array Value}(hS:eN C M w ts us){r:ResultVar}{x:AV}{s s':AS}(h:cNl T ⟨ts,M⟩ r s=some (x,s'))(g:bD s') :
  ∃ u,(aEe us r).run P w = .ok u w∧Rep C M w x u:=by
 cases r with
 | tmp t =>
  obtain ⟨e1,rfl⟩:=aH h;exact ⟨_,rfl,hS.at e1⟩
 | cell a t =>
  obtain ⟨y,s1,h1,k1⟩:=aE h;obtain ⟨e1,rfl⟩:=aH h1;obtain ⟨_,u,h2,h3⟩:=aCf hT hM (hS.at e1) k1 g
  refine ⟨u,?_,h3⟩;obtain ⟨p,hp⟩:=bDj k1 (hS.at e1)
  unfold Instr.loadAt at h2
  simp only [aEe];rw [hp] at h2 ⊢
  exact h2

theorem aEf(hT:∀ t i,T t=some i→cQ P t=some i)(hM:aU P C M w){ts:List AV}{us:Array Value}(hS:eN C M w ts us):∀ (l:List ResultVar) {xs:List AV} {s s':AS},aTp T ⟨ts,M⟩ l s=some (xs,s')→bD s' →
  ∃ vs:List Value,(l.mapM (aEe us)).run P w = .ok vs w∧dL C M w xs vs
 | [],xs,s,s',h,g=>by
  obtain ⟨rfl,rfl⟩:=aL h;exact ⟨[],rfl,.nil⟩
 | r::l,xs,s,s',h,g=>by
  obtain ⟨x,s1,h1,k1⟩:=aE h;obtain ⟨ys,s2,h2,k2⟩:=aE k1;obtain ⟨rfl,rfl⟩:=aL k2;obtain ⟨u,e1,r1⟩:=aTr hT hM hS h1 ((zX l).good h2 g);obtain ⟨vs,e2,r2⟩:=aEf hT hM hS l h2 g;refine ⟨u::vs,?_,.cons _ _ _ _ r1 r2⟩;rw [List.mapM_cons,Sem.run_bind,e1,Result.andThen_ok,Sem.run_bind,e2,Result.andThen_ok,Sem.run_pure]

theorem aPf{fn:Func}{us:Array Value}{vs:List Value}(h:(fn.results.toList.mapM (aEe us)).run P w = .ok vs w):(results fn us).run P w = .ok (if _:vs.length=1 then vs[0] else .tuple vs.toArray) w:=by
 have e:(results fn us)=(do let vs ← fn.results.mapM (aEe us);pure (if h:vs.size=1 then vs[0] else .tuple vs)):=by
  unfold results
  congr 1
 rw [e,Sem.run_bind,Array.mapM_eq_mapM_toList,Sem.run_map,h,Result.andThen_ok,Result.andThen_ok,Sem.run_pure]
 congr 1

theorem bWj{xs:List AV}{vs:List Value}(h:dL C M w xs vs):Rep C M w (bQc xs) (if _:vs.length=1 then vs[0] else .tuple vs.toArray):=by
 have hl:=h.len;cases h with
 | nil=>exact .tup [] _ rfl (fun i h=>by simp at h)
 | cons x u l k hx hr =>
  cases hr with
  | nil=>exact hx
  | cons y v l k hy hr =>
   have hne:¬ (u::v::k).length=1:=by simp
   rw [dif_neg hne];refine .tup _ _ (by simpa using hl) (fun i hi => ?_)
   have:=(dL.cons x u _ _ hx (dL.cons y v l k hy hr)).at i hi
   rwa [← cI] at this

theorem Sim.take{st:St}{a:Act}{d:Deferred}{ds:List Deferred}(h:Sim P C0 M0 w0 st a w)(hd:a.defers=d::ds):∃ D,d=mark D∧w.heap[D]? = some (.deferred (some []))∧Sim P C0 M0 w0 st { a with defers:=ds } (w.putObj D (.deferred none)):=by
 obtain ⟨C,hS,hM,hF,⟨l,h1,h2,h3⟩,hR,hP⟩:=h;rw [hd] at h1
 cases l with
 | nil=>simp at h1
 | cons D l =>
  rw [iB,List.cons.injEq] at h1
  obtain ⟨rfl,rfl⟩:=h1;obtain ⟨q1,q2,q3⟩:=h3 D (by simp)
  obtain ⟨hnd,R9⟩:=List.nodup_cons.1 h2;have hg:=grownBy_putObj' w D (.deferred none);have hsz:(w.putObj D (.deferred none)).heap.size=w.heap.size:=by simp [World.putObj]
  have hk:∀ b,b≠D→(w.putObj D (.deferred none)).heap[b]? = w.heap[b]? := fun b hb=>by
   rcases Nat.lt_or_ge b w.heap.size with h | h
   ·exact hg.block b h (by simpa using hb)
   ·rw [Array.getElem?_eq_none h,Array.getElem?_eq_none (by omega)]
  have hlive:∀ (id:Nat) (o:AO) (b:Nat),st.m[id]? = some (some o)→o.live=true→C.ι id=some b→b≠D:=fun id o b ho hl hb e=>by
   subst e;exact aPs hM hP ho hl hb q1
  have hL:Le C C st.m st.m w (w.putObj D (.deferred none)):=⟨fun _ o h=>⟨o,h⟩,fun _ _ _ _ _ cs h=>⟨cs,h⟩,fun _ o h o' h' hl=>by rw [h] at h';cases h';exact ⟨hl,rfl,rfl⟩,fun _ h=>h,fun b hb=>hk b fun e=>q3 (e ▸ hb)⟩
  refine ⟨D,rfl,q1,C,hS.le hL,⟨fun i Du n cs hm => ?_,fun i Du cs hm => ?_,fun i es cl hm => ?_,hM.inj,hM.nF,fun b hb=>by rw [hsz];exact hM.Fs b hb,fun i x b hm hl hb=>by rw [hsz];exact hM.lt i x b hm hl hb⟩,
   ⟨hg.os.trans hF.os,hg.tape.trans hF.tape,hg.output.trans hF.out,fL hF.size hg.size,fun b hb hn=>(hk b (by omega)).trans (hF.keep b hb hn),hF.ids,hF.row,hF.liv,hF.new,hF.F1,hF.F2⟩,⟨l,rfl,R9,fun D' Kx => ?_⟩,fun p hp => ?_,fun i to ti sz L hm => ?_,hP.2⟩
  ·rcases hM.row _ _ _ _ hm with h4 | ⟨b,arr,inf,q0,Ky,Kz,L5,q4,q5,q6,q7,q8⟩
   ·exact .inl h4
   ·exact .inr ⟨b,arr,inf,q0,by rw [hk b (hlive _ _ _ hm rfl q0)];exact Ky,Kz,L5,q4,q5,q6,fun j hj=>(q7 j hj).mono hL.F hL.fz,q8⟩
  ·obtain ⟨b,arr,q0,Ky,Kz,L5,q4⟩:=hM.box _ _ _ hm
   exact ⟨b,arr,q0,by rw [hk b (hlive _ _ _ hm rfl q0)];exact Ky,Kz,fun j hj=>(L5 j hj).mono hL,q4⟩
  ·obtain ⟨b,arr,q0,Ky,Kz,L5⟩:=hM.mp _ _ _ hm
   refine ⟨b,arr,q0,by rw [hk b (hlive _ _ _ hm rfl q0)];exact Ky,Kz,fun j hj => ?_⟩
   obtain ⟨en,r1,r2,r3,r4⟩:=L5 j hj;exact ⟨en,r1,r2,r3,r4.mono hL.F hL.fz⟩
  ·obtain ⟨r1,r2,r3⟩:=h3 D' (Ch _ Kx)
   exact ⟨by rw [hk D' (fun e=>hnd (e ▸ Kx))];exact r1,r2,r3⟩
  ·obtain ⟨r1,r2,r3,r4,r5⟩:=hR p hp
   exact ⟨by rw [hk p.1 (fun e=>r3 (by rw [e,q1] at r1;exact (Option.some.inj r1).symm))];exact r1,r2,r3,r4,r5⟩
  ·obtain ⟨p,p0,p1⟩:=hP.1 _ _ _ _ _ hm
   exact ⟨p.move p.io rfl (fun _ h=>h) hL.fz fun b hb=>⟨hk b (fun e=>by
    obtain ⟨_,arr,ty,r1⟩:=p.lt hb;rw [e,q1] at r1;cases r1),p.own b hb⟩,p0,p1⟩

theorem aBs(hT:∀ t i,T t=some i→cQ P t=some i)(hE:nG P E)(hm:P.follows .mixedOrders=true){fuel f:Nat}{fn:Func}{c:Code}(hf:P.funcs[f]? = some fn)(hb:fn.body=some c){args:List AV}{r:AV}{M':Mem}{s s':AS}
  (h:aTq P T E fuel fn c args M s=some ((r,M'),s')) (g:bD s'):wV P f args M r M':=by
 intro C w us hus hM n;unfold aTq at h
 obtain ⟨_,s0,h0,k0⟩:=aE h;obtain ⟨e0,rfl⟩:=aH h0;have hnp:=qU (bY e0).1;obtain ⟨⟨e,st⟩,s1,h1,k1⟩:=aE k0;have hlen:=hus.len;have hS:eN C M w (args++List.replicate (fn.ntmps-args.length) .any) (us.toArray++Array.replicate (fn.ntmps-us.toArray.size) undef):=by
  refine ⟨by simp [hlen],fun i hi => ?_⟩
  by_cases c1:i<args.length
  ·rw [aCx c1,Cb,Array.getElem?_append_left (by simp;omega)]
   have:=hus.at i c1
   rwa [← cI,Cb] at this
  ·rw [aQv (by omega),List.getElem_replicate]
   exact .any _
 have hsim:Sim P (C.with []) M w ⟨args++List.replicate (fn.ntmps-args.length) .any,M⟩ { tmps:=us.toArray++Array.replicate (fn.ntmps-us.toArray.size) undef,defers:=[] } w:=⟨C,hS,hM,(Fr.refl ..).based [],.nil rfl hnp⟩
 refine callsIn_of_wp_marks hf hb trivial ?_;have fin:∀ (e':Exit) (a':Act) (w':World),(e' = .normal∨e' = .ret)→Sim P (C.with []) M w st a' w'→(∃ l s2,aTp T st fn.results.toList s1=some (l,s2)∧bD s2∧r=bQc l∧M'=st.m)→bodyPostM Fence.wide n P fn (fun e w'=>∃ u,e = .returned u∧∃ C',Fr C M w C' M' w'∧aU P C' M' w'∧Rep C' M' w' r u∧oA (C.with []) M M' C' w w') e' a' w':=by
  rintro e' a' w' he Cj ⟨l,s2,h2,g2,rfl,rfl⟩;have key:∀ (ds:List Deferred) (a':Act) (w':World),a'.defers=ds→Sim P (C.with []) M w st a' w'→LeavesInM Fence.wide n P fn a'.tmps (fun e w'=>∃ u,e = .returned u∧∃ C',Fr C M w C' st.m w'∧aU P C' st.m w'∧Rep C' st.m w' (bQc l) u∧oA (C.with []) M st.m C' w w') ds .returning w':=by
   intro ds
   induction ds with
   | nil =>
    rintro a' w' hd ⟨C',V9,Hh,Re,_,_,Wb⟩;obtain ⟨ts,m⟩:=st;obtain ⟨vs,e2,r2⟩:=aEf hT Hh V9 fn.results.toList h2 g2;exact ⟨_,aPf e2,_,rfl,C',Re.unbased,Hh,bWj r2,Wb⟩
   | cons d ds ih =>
    intro a' w' hd Cj;obtain ⟨D,rfl,hD,N9⟩:=Cj.take hd;exact ⟨by simp,.inl ⟨_,_,rfl,run_takeDeferred hD,ih { a' with defers:=ds } _ rfl N9⟩⟩
  rcases he with rfl | rfl
  ·exact key _ a' w' rfl Cj
  ·exact key _ a' w' rfl Cj
 have out:(e = .normal∨e = .ret)∧∃ l s2,aTp T st fn.results.toList s1=some (l,s2)∧bD s2∧r=bQc l∧M'=st.m:=by
  cases e with
  | exit id=>exact (aX k1).elim
  | normal =>
   obtain ⟨l,s2,h2,k2⟩:=aE k1;obtain ⟨he,rfl⟩:=aL k2;cases he;exact ⟨.inl rfl,l,_,h2,g,rfl,rfl⟩
  | ret =>
   obtain ⟨l,s2,h2,k2⟩:=aE k1;obtain ⟨he,rfl⟩:=aL k2;cases he;exact ⟨.inr rfl,l,_,h2,g,rfl,rfl⟩
 obtain ⟨he,l,s2,h2,g2,e3,e4⟩:=out;have g1:=(zX _).good h2 g2;refine wpIn_mono (aEg hT hE hm c h1 g1 (C.with []) M w _ w (dF _) hsim none (.inl rfl) n) ?_
 rintro e' a' w' ⟨rfl,Cj⟩;exact fin _ a' w' (by rcases he with rfl | rfl <;> simp [Ex.toExit]) Cj ⟨l,s2,h2,g2,e3,e4⟩
end
section
variable {P:Program} {T:TT} {E:Env} {C C0:Cx} {M M0:Mem} {w w0:World}

mutual
def aPe:PV→Bool
 | .v _=>true
 | .sl _ cs=>match cs with
  | []=>true
  | _=>false
 | .agg cs=>aIq cs
 | .mp _=>false
 | .rp _ _=>false
def aIq:List PV→Bool
 | []=>true
 | x::r=>match aPe x with
  | true=>aIq r
  | false=>false
end
mutual
def rig:AV→Bool
 | .p x=>aPe x
 | .kb _=>true
 | .any=>true
 | .yld _=>true
 | .agg cs=>aTo cs
 | .fn _ a b=>match aTo a with
  | true=>aTo b
  | false=>false
 | _=>false
def aTo:List AV→Bool
 | []=>true
 | x::r=>match rig x with
  | true=>aTo r
  | false=>false
end
mutual
def noRef:AV→Bool
 | .p _=>true
 | .kb _=>true
 | .any=>true
 | .yld _=>true
 | .rp _ _=>true
 | .agg cs=>kP cs
 | .fn _ a b=>match kP a with
  | true=>kP b
  | false=>false
 | _=>false
def kP:List AV→Bool
 | []=>true
 | x::r=>match noRef x with
  | true=>kP r
  | false=>false
end

theorem aEd:∀ {l:List PV},aIq l=true→∀ i (h:i<l.length),aPe l[i]=true
 | [],_,i,h=>by simp at h
 | x::r,hr,i,h=>by
  unfold aIq at hr
  split at hr
  ·cases i with
   | zero=>assumption
   | succ i=>exact aEd hr i (by simpa using h)
  ·cases hr
theorem aDi:∀ {l:List AV},aTo l=true→∀ i (h:i<l.length),rig l[i]=true
 | [],_,i,h=>by simp at h
 | x::r,hr,i,h=>by
  unfold aTo at hr
  split at hr
  ·cases i with
   | zero=>assumption
   | succ i=>exact aDi hr i (by simpa using h)
  ·cases hr
theorem qT:∀ {l:List AV},kP l=true→∀ i (h:i<l.length),noRef l[i]=true
 | [],_,i,h=>by simp at h
 | x::r,hr,i,h=>by
  unfold kP at hr
  split at hr
  ·cases i with
   | zero=>assumption
   | succ i=>exact qT hr i (by simpa using h)
  ·cases hr

theorem cM.rig{F G:Nat→Prop}{w w':World}{x:PV}{u:Value}(h:cM F w x u)(hr:aPe x=true):cM G w' x u:=by
 induction h with
 | v x=>exact .v x
 | sl n cs p cap us h1 h2 h3 _ h5 ih =>
  cases cs with
  | nil=>exact .sl n [] p cap us h1 h2 (fun i h=>by simp at h) (fun i h=>by simp at h) (fun i h=>by simp at h)
  | cons=>simp [aPe] at hr
 | agg cs vs h0 h1 _ ih =>
  have Hj:aIq cs=true:=by simpa [aPe] using hr
  exact .agg cs vs h0 h1 fun i hi=>ih i hi (aEd Hj i hi)
 | mp=>simp [aPe] at hr
 | rp=>simp [aPe] at hr

theorem Rep.rig{C C':Cx}{M M':Mem}{w w':World}{x:AV}{u:Value}(h:Rep C M w x u)(hr:rig x=true):Rep C' M' w' x u:=by
 induction h with
 | p x u h=>exact .p x u (h.rig (by simpa [KV.rig] using hr))
 | any u=>exact .any u
 | kb b=>exact .kb b
 | yld l=>exact .yld l
 | agg cs vs h0 h1 _ ih =>
  have Hj:aTo cs=true:=by simpa [KV.rig] using hr
  exact .agg cs vs h0 h1 fun i hi=>ih i hi (aDi Hj i hi)
 | fn f cs ds us vs h1 h2 _ _ Jk Ie =>
  simp only [KV.rig] at hr
  split at hr
  ·rename_i Iy
   exact .fn f cs ds us vs h1 h2 (fun i hi=>Jk i hi (aDi Iy i hi)) (fun i hi=>Ie i hi (aDi hr i hi))
  ·cases hr
 | _=>simp [KV.rig] at hr

theorem Rep.noRef{C C':Cx}{M M':Mem}{w w':World}{x:AV}{u:Value}(h:Rep C M w x u)(hr:noRef x=true)(hF:∀ b,C.F b→C'.F b)(hz:∀ b,C.F b→w'.heap[b]? = w.heap[b]?):Rep C' M' w' x u:=by
 induction h with
 | p x u h=>exact .p x u (h.mono hF hz)
 | any u=>exact .any u
 | kb b=>exact .kb b
 | yld l=>exact .yld l
 | rp cs off b o us h1 h2 h3=>exact .rp cs off b o us (fun i hi=>⟨hF _ (h1 i hi).1,(eV (hz _ (h1 i hi).1) _).trans (h1 i hi).2⟩) (fun i hi=>(h2 i hi).mono hF hz) h3
 | agg cs vs h0 h1 _ ih =>
  have Hj:kP cs=true:=by simpa [KV.noRef] using hr
  exact .agg cs vs h0 h1 fun i hi=>ih i hi (qT Hj i hi)
 | fn f cs ds us vs h1 h2 _ _ Jk Ie =>
  simp only [KV.noRef] at hr
  split at hr
  ·rename_i Iy
   exact .fn f cs ds us vs h1 h2 (fun i hi=>Jk i hi (qT Iy i hi)) (fun i hi=>Ie i hi (qT hr i hi))
  ·cases hr
 | _=>simp [KV.noRef] at hr

def Cx.bare(C:Cx)(G:Nat→Prop):Cx:={ ι:=fun _=>none,κ:=C.κ,F:=G }

section
variable {G:Nat→Prop} (hM:aU P C M w) (hG:∀ b,C.F b→G b) (hO:∀ (id:Nat) (o:AO) (b:Nat),M[id]? = some (some o)→o.live=true→C.ι id=some b→G b)
include hM hG hO

theorem aBq{x:AV}{u:Value}{y:PV}(h:Rep C M w x u)(hv:Fv M x=some y):cM G w y u:=by
 unfold Fv at hv
 split at hv
 ·cases hv;cases h with | p _ _ h=>exact h.mono hG (fun _ _=>rfl)
 ·cases hv;cases h;exact .v _
 ·split at hv
  ·rename_i id _ r hr
   cases hv;have ho:=dR hr;refine (xF hM ho h).mono (fun b hb => ?_) (fun _ _=>rfl)
   rcases hb with hb | ⟨_,hb⟩
   ·exact hG b hb
   ·exact hO _ _ b ho rfl hb
  ·cases hv
 ·cases hv

theorem aBr:∀ {l:List AV} {us:Nat→Value} {ys:List PV},(∀ i (h:i<l.length),Rep C M w l[i] (us i))→aEz M l=some ys→ys.length=l.length∧∀ i (h:i<ys.length),cM G w ys[i] (us i)
 | [],_,ys,_,hv=>by cases hv;exact ⟨rfl,fun i h=>by simp at h⟩
 | x::r,us,ys,h,hv=>by
  unfold aEz at hv
  split at hv
  ·rename_i y h1
   split at hv
   ·rename_i l h2
    cases hv;obtain ⟨q1,q2⟩:=aBr (us:=fun i=>us (i+1)) (fun i hi=>h (i+1) (by simpa using hi)) h2
    refine ⟨by simp [q1],fun i hi => ?_⟩
    cases i with
    | zero=>exact aBq hM hG hO (h 0 (by simp)) h1
    | succ i=>exact q2 i (by simpa using hi)
   ·cases hv
  ·cases hv

set_option linter.unusedSectionVars false in
mutual
theorem wU:∀ {x:AV} {u:Value} {y:AV},Rep C M w x u→view M x=some y→Rep (C.bare G) [] w y u
 | .p x,u,y,h,hv=>by
  simp only [view] at hv
  cases hv;cases h with | p _ _ h=>exact .p _ _ (h.mono hG (fun _ _=>rfl))
 | .kb b,u,y,h,hv=>by simp only [view] at hv;cases hv;cases h;exact .kb _
 | .any,u,y,h,hv=>by simp only [view] at hv;cases hv;exact .any _
 | .yld l,u,y,h,hv=>by simp only [view] at hv;cases hv;cases h;exact .yld _
 | .own id,u,y,h,hv=>by
  simp only [view] at hv
  split at hv
  ·rename_i r hr
   cases hv;exact .p _ _ (aBq hM hG hO h (by simp only [Fv,hr]))
  ·cases hv
 | .rp cs off,u,y,h,hv=>by
  simp only [view] at hv
  cases hv;cases h with
  | rp _ _ b o us h1 h2 h3=>exact .rp cs off b o us (fun i hi=>⟨hG _ (h1 i hi).1,(h1 i hi).2⟩) (fun i hi=>(h2 i hi).mono hG (fun _ _=>rfl)) h3
 | .ptr id off,u,y,h,hv=>by
  simp only [view] at hv
  split at hv
  ·rename_i ty n cs ho
   cases hv;have ho:=eL ho;obtain ⟨b,rfl,hb⟩:=iM h (jZ ho rfl)
   rcases hM.row _ _ _ _ ho with ⟨hn,_⟩ | ⟨b',arr,inf,A4,q1,q2,q3,q4,q5,q6,q7,q8⟩
   ·rw [hb] at hn;cases hn
   ·rw [hb] at A4;cases A4
    have hle:cs.length≤arr.size:=by rw [q3,q4];exact Nat.mul_le_mul_right _ q5
    have:=Rep.rp (C:=C.bare G) (M:=[]) (w:=w) cs off b 0 (fun j=>arr.getD j undef) (fun i hi=>⟨hO _ _ b ho rfl hb,by rw [iC];exact cE q1 (by omega)⟩) (fun i hi=>(q7 i hi).mono hG (fun _ _=>rfl)) q8
    rwa [iC] at this
  ·rename_i ty cs ho
   have ho:=eL ho
   split at hv
   ·rename_i xs hx
    cases hv;obtain ⟨b,rfl,hb⟩:=iM h (jZ ho rfl);obtain ⟨b',arr,A4,q1,q2,q3,q4⟩:=hM.box _ _ _ ho;rw [hb] at A4;cases A4
    obtain ⟨r1,r2⟩:=aBr hM hG hO (us:=fun j=>arr.getD j undef) q3 hx
    have:=Rep.rp (C:=C.bare G) (M:=[]) (w:=w) xs off b 0 (fun j=>arr.getD j undef) (fun i hi=>⟨hO _ _ b ho rfl hb,by rw [iC];exact cE q1 (by omega)⟩) r2 (fun i hi=>q4 i (by omega))
    rwa [iC] at this
   ·cases hv
  ·cases hv
 | .agg cs,u,y,h,hv=>by
  simp only [view] at hv
  split at hv
  ·rename_i xs hx
   cases hv;cases h with
   | agg _ vs h0 h1 h2 =>
    obtain ⟨q1,q2⟩:=mL (us:=fun i=>vs.getD i undef) h2 hx
    exact mM (fun i hi=>h0 i (by omega)) (by omega) q2
  ·cases hv
 | .fn f a b,u,y,h,hv=>by
  simp only [view] at hv
  split at hv
  ·rename_i a' ha
   split at hv
   ·rename_i b' hb
    cases hv;cases h with
    | fn _ _ _ us vs h1 h2 h3 h4 =>
     obtain ⟨q1,q2⟩:=mL (us:=fun i=>us.getD i undef) h3 ha
     obtain ⟨r1,r2⟩:=mL (us:=fun i=>vs.getD i undef) h4 hb
     exact .fn f a' b' us vs (by omega) (by omega) q2 r2
   ·cases hv
  ·cases hv
 | .arr id off n,u,y,h,hv=>by
  simp only [view] at hv
  split at hv
  ·rename_i r hr
   cases hv;have ho:=dR hr;cases h with
   | arr _ _ _ u h0 ha hrow =>
    rcases hrow _ ho rfl with ⟨rfl,p,cap,rfl,hc⟩ | ⟨b,cap,rfl,hn,hc,hb⟩
    ·rw [Nat.zero_mul,List.take_zero]
     exact .p _ _ (.sl 0 [] p cap (fun _=>undef) (Nat.zero_le _) hc (fun i h=>by simp at h) (fun i h=>by simp at h) (fun i h=>by simp at h))
    ·rcases hM.row _ _ _ _ ho with ⟨Fx,_⟩ | ⟨b',arr,inf,A4,q1,q2,q3,q4,q5,q6,q7,q8⟩
     ·rw [hb] at Fx;cases Fx
     ·rw [hb] at A4;cases A4
      have hle:r.2.2.length≤arr.size:=by rw [q3,q4];exact Nat.mul_le_mul_right _ q5
      have hlt:∀ i,i<((r.2.2.drop off).take (n*(r.2.2.length / r.2.1))).length→off+i<r.2.2.length:=fun i hi=>by simp at hi;omega
      refine .p _ _ (.sl n _ _ cap (fun j=>arr.getD (off+j) undef) hn hc (fun i hi=>⟨b,off,rfl,hO _ _ b ho rfl hb,cE q1 (by have:=hlt i hi;omega)⟩) (fun i hi => ?_) (fun i hi=>q8 _ (hlt i hi)))
      simp only [List.getElem_take,List.getElem_drop];exact (q7 _ (hlt i hi)).mono hG (fun _ _=>rfl)
  ·cases hv
 | .tup _,_,_,_,hv=>by simp [view] at hv
 | .mp _,_,_,_,hv=>by simp [view] at hv
 | .pa _ _,_,_,_,hv=>by simp [view] at hv
theorem mL:∀ {l:List AV} {us:Nat→Value} {ys:List AV},(∀ i (h:i<l.length),Rep C M w l[i] (us i))→pC M l=some ys→ys.length=l.length∧∀ i (h:i<ys.length),Rep (C.bare G) [] w ys[i] (us i)
 | [],_,ys,_,hv=>by simp only [pC] at hv;cases hv;exact ⟨rfl,fun i h=>by simp at h⟩
 | x::r,us,ys,h,hv=>by
  simp only [pC] at hv
  split at hv
  ·rename_i y h1
   split at hv
   ·rename_i l h2
    cases hv;obtain ⟨q1,q2⟩:=mL (us:=fun i=>us (i+1)) (fun i hi=>h (i+1) (by simpa using hi)) h2
    refine ⟨by simp [q1],fun i hi => ?_⟩
    cases i with
    | zero=>exact wU (h 0 (by simp)) h1
    | succ i=>exact q2 i (by simpa using hi)
   ·cases hv
  ·cases hv
end
end
end
section
variable {P:Program} {T:TT} {E:Env} {C C':Cx} {M M1:Mem} {w w':World}

def Cx.after(C:Cx)(w w':World)(kb:Option Nat):Cx:={ ι:=C.ι,κ:=C.κ,F:=fun b=>C.F b∨(w.heap.size≤b∧b<w'.heap.size∧kb≠some b) }

theorem aPd(hM:aU P C M w){kb:Option Nat}(ho:w'.os=w.os)(ht:w'.tape=w.tape)(hu:w'.output=w.output)(hs:w.heap.size≤w'.heap.size)(hk:∀ b,b<w.heap.size→w'.heap[b]? = w.heap[b]?):Fr C M w (C.after w w' kb) M w'∧aU P (C.after w w' kb) M w':=by
 have hf:Fr C M w (C.after w w' kb) M w':=⟨ho,ht,hu,hs,fun b hb _=>hk b hb,fun _ x h=>⟨⟨x,h⟩,rfl,rfl⟩,fun _ _ _ _ _ cs h=>⟨cs,h⟩,fun _ o h o' h' hl=>by rw [h] at h';cases h';exact hl,
  fun i x _ h hl hb => .inr ⟨i,x,h,hl,hb⟩,fun _ h => .inl h,fun b h=>by rcases h with h | ⟨h,_⟩;exact .inl h;exact .inr (.inl h)⟩
 have hL:=hM.le hf;refine ⟨hf,fun i Du n cs hm => ?_,fun i Du cs hm => ?_,fun i es cl hm => ?_,hM.inj,fun i x b hm hl hb => ?_,fun b hb => ?_,fun i x b hm hl hb=>gF (hM.lt i x b hm hl hb) hs⟩
 ·rcases hM.row _ _ _ _ hm with h4 | ⟨b,arr,inf,q0,q1,q2,q3,q4,q5,q6,q7,q8⟩
  ·exact .inl h4
  ·exact .inr ⟨b,arr,inf,q0,(hk b (hM.lt _ _ _ hm rfl q0)).trans q1,q2,q3,q4,q5,q6,fun j hj=>(q7 j hj).mono hL.F hL.fz,q8⟩
 ·obtain ⟨b,arr,q0,q1,q2,q3,q4⟩:=hM.box _ _ _ hm
  exact ⟨b,arr,q0,(hk b (hM.lt _ _ _ hm rfl q0)).trans q1,q2,fun j hj=>(q3 j hj).mono hL,q4⟩
 ·obtain ⟨b,arr,q0,q1,q2,q3⟩:=hM.mp _ _ _ hm
  refine ⟨b,arr,q0,(hk b (hM.lt _ _ _ hm rfl q0)).trans q1,q2,fun j hj => ?_⟩
  obtain ⟨en,r1,r2,r3,r4⟩:=q3 j hj;exact ⟨en,r1,r2,r3,r4.mono hL.F hL.fz⟩
 ·rintro (h | ⟨h,_⟩)
  ·exact hM.nF i x b hm hl hb h
  ·have:=hM.lt i x b hm hl hb
   omega
 ·rcases hb with h | ⟨_,h,_⟩
  ·exact gF (hM.Fs b h) hs
  ·exact h

theorem bQb{C1:Cx}(hM:aU P C1 M w'){base b k ty n:Nat}{cs:List PV}(hf:aCv M base)(hnF:¬ C1.F b)(hold:∀ (i:Nat) (x:AO) (j:Nat),M[i]? = some (some x)→x.live=true→C1.ι i=some j→j<b)(hb:b<w'.heap.size)
  (hrow:∃ arr i,w'.heap[b]? = some (.cells arr ty (0,0))∧P.info? ty=some i∧arr.size=k*i.size∧cs.length=n*i.size∧n≤k∧k≤maxLen∧(∀ j (h:j<cs.length),cM C1.F w' cs[j] (arr.getD j undef))∧∀ j,j<cs.length→(arr.getD j undef).oneCell'=true) :
  aU P (C1.grow base b k) (bB M base (some (.row ty n cs))) w'∧Le C1 (C1.grow base b k) M (bB M base (some (.row ty n cs))) w' w':=by
 have hne:∀ (i:Nat) (x:AO),M[i]? = some (some x)→i≠base:=fun i x h e=>hf x (e ▸ h)
 have hL:Le C1 (C1.grow base b k) M (bB M base (some (.row ty n cs))) w' w':=by
  refine ⟨fun i x h=>⟨x,(aT M base i _ x (fun e=>hne i x h e.symm)).2 h⟩,fun i x h ty n cs hm=>⟨cs,(aT M base i _ _ (fun e=>hne i x h e.symm)).1 hm⟩,fun i x h o' hm hl => ?_,fun _ h=>h,fun _ _=>rfl⟩
  have h4:=(aT M base i _ _ (fun e=>hne i x h e.symm)).1 hm
  rw [h] at h4;cases h4
  exact ⟨hl,by simp [Cx.grow,hne i x h],by simp [Cx.grow,hne i x h]⟩
 have Et:∀ (i:Nat) (x:AO),i≠base→(bB M base (some (.row ty n cs)))[i]? = some (some x)→M[i]? = some (some x):=fun i x h=>(aT M base i _ x (fun e=>h e.symm)).1
 have hnew:∀ (x:AO),(bB M base (some (.row ty n cs)))[base]? = some (some x)→x = .row ty n cs:=fun x h=>by rw [aY] at h;cases h;rfl
 have hι:∀ i,i≠base→(C1.grow base b k).ι i=C1.ι i:=fun i h=>by simp [Cx.grow,h]
 have hκ:∀ i,i≠base→(C1.grow base b k).κ i=C1.κ i:=fun i h=>by simp [Cx.grow,h]
 have hιs:(C1.grow base b k).ι base=some b:=by simp [Cx.grow]
 have hκs:(C1.grow base b k).κ base=k:=by simp [Cx.grow]
 refine ⟨⟨fun i Du n' Bz hm => ?_,fun i Du Bz hm => ?_,fun i es cl hm => ?_,fun i i' o1 o2 j hm hl D3 Ed Dm Fw => ?_,fun i x j hm hl hj => ?_,fun j hj=>hM.Fs j hj,fun i x j hm hl hj => ?_⟩,hL⟩
 ·by_cases e:i=base
  ·subst e
   cases hnew _ hm;obtain ⟨arr,inf,q0,q1,q2,q3,q4,q5,q6,q7⟩:=hrow;exact .inr ⟨b,arr,inf,hιs,q0,q1,by rw [hκs];exact q2,q3,by rw [hκs];exact q4,by rw [hκs];exact q5,q6,q7⟩
  ·rw [hι i e,hκ i e]
   rcases hM.row _ _ _ _ (Et i _ e hm) with h4 | ⟨j,arr,inf,q0,q1,q2,q3,q4,q5,q6,q7,q8⟩
   ·exact .inl h4
   ·exact .inr ⟨j,arr,inf,q0,q1,q2,q3,q4,q5,q6,q7,q8⟩
 ·by_cases e:i=base
  ·subst e;cases hnew _ hm
  ·rw [hι i e]
   obtain ⟨j,arr,q0,q1,q2,q3,q4⟩:=hM.box _ _ _ (Et i _ e hm);exact ⟨j,arr,q0,q1,q2,fun j hj=>(q3 j hj).mono hL,q4⟩
 ·by_cases e:i=base
  ·subst e;cases hnew _ hm
  ·rw [hι i e]
   obtain ⟨j,arr,q0,q1,q2,q3⟩:=hM.mp _ _ _ (Et i _ e hm);refine ⟨j,arr,q0,q1,q2,fun j hj => ?_⟩
   obtain ⟨en,r1,r2,r3,r4⟩:=q3 j hj;exact ⟨en,r1,r2,r3,r4.mono hL.F hL.fz⟩
 ·by_cases e:i=base
  ·by_cases e':i'=base
   ·rw [e,e']
   ·subst e
    rw [hιs] at Dm;cases Dm
    rw [hι i' e'] at Fw
    have:=hold i' _ _ (Et i' _ e' D3) Ed Fw;omega
  ·by_cases e':i'=base
   ·subst e'
    rw [hιs] at Fw;cases Fw
    rw [hι i e] at Dm
    have:=hold i _ _ (Et i _ e hm) hl Dm;omega
   ·rw [hι i e] at Dm;rw [hι i' e'] at Fw
    exact hM.inj _ _ _ _ _ (Et i _ e hm) hl (Et i' _ e' D3) Ed Dm Fw
 ·by_cases e:i=base
  ·subst e;rw [hιs] at hj;cases hj;exact hnF
  ·rw [hι i e] at hj;exact hM.nF _ _ _ (Et i _ e hm) hl hj
 ·by_cases e:i=base
  ·subst e;rw [hιs] at hj;cases hj;exact hb
  ·rw [hι i e] at hj;exact hM.lt _ _ _ (Et i _ e hm) hl hj
end
section
variable {P:Program} {T:TT} {E:Env} {C C':Cx} {M M1:Mem} {w w':World}

def bAe:List AV→Option Nat
 | []=>none
 | .own id::_=>some id
 | _::r=>bAe r
def bPz:AV→Option Nat
 | .own id=>some id
 | .tup l=>bAe l
 | _=>none
def bDe(m:Mem)(base k:Nat)(x:AV):Option AV:=match x with
 | .own id=>match Nat.beq id k with
  | true=>some (.own base)
  | false=>view m (.own id)
 | x=>view m x
def bAf(m:Mem)(base k:Nat):List AV→Option (List AV)
 | []=>some []
 | x::r=>match bDe m base k x with
  | some y=>match bAf m base k r with
   | some l=>some (y::l)
   | none=>none
  | none=>none
def bQa(m:Mem)(base k:Nat):AV→Option AV
 | .tup l=>match bAf m base k l with
  | some ys=>some (.tup ys)
  | none=>none
 | x=>bDe m base k x
def bDf(m:Mem)(base:Nat)(r:AV):Option (AV × Upd):=match bPz r with
 | some k=>match gH m k with
  | some q=>match bQa (upds m [(k,.dead)]) base k r with
   | some y=>some (y,[(base,.row q.1 q.2.1 q.2.2)])
   | none=>none
  | none=>none
 | none=>match bQa m base m.length r with
  | some y=>some (y,[])
  | none=>none

def bDg:AV→Bool
 | .own _=>true
 | x=>rig x
def aEb:List AV→Bool
 | []=>true
 | x::r=>match bDg x with
  | true=>aEb r
  | false=>false
def bDh:AV→Bool
 | .tup l=>aEb l
 | x=>bDg x
def bDi:Upd→Bool
 | []=>true
 | (_,.row _ _ cs)::r=>match aIq cs with
  | true=>bDi r
  | false=>false
 | _=>false
theorem aPa:∀ {l:List AV},aEb l=true→∀ i (h:i<l.length),bDg l[i]=true
 | [],_,i,h=>by simp at h
 | x::r,hr,i,h=>by
  unfold aEb at hr
  split at hr
  ·cases i with
   | zero=>assumption
   | succ i=>exact aPa hr i (by simpa using h)
  ·cases hr

theorem aPb{cs l:List AV}(h:kX cs = .tup l):False:=by
 unfold kX at h;split at h <;> cases h
theorem aPc{m:Mem}{x:AV}{l:List AV}(h:view m x=some (.tup l)):False:=by
 cases x with
 | agg cs =>
  simp only [view] at h
  split at h
  ·injection h with h;exact aPb h
  ·cases h
 | fn f a b =>
  simp only [view] at h
  split at h
  ·split at h <;> cases h
  ·cases h
 | ptr id off =>
  simp only [view] at h
  split at h
  ·cases h
  ·split at h <;> cases h
  ·cases h
 | own id=>simp only [view] at h;split at h <;> cases h
 | arr id off n=>simp only [view] at h;split at h <;> cases h
 | _=>simp [view] at h

theorem aEc{C2:Cx}{M2 m:Mem}{Ck:Cx}{base k:Nat}{A:Prop}(hM:aU P Ck m w')
  (hA:A→(∀ b,Ck.F b→C2.F b)∧∀ (id:Nat) (o:AO) (b:Nat),m[id]? = some (some o)→o.live=true→Ck.ι id=some b→C2.F b)
  (hk:∀ u,Rep C' M1 w' (.own k) u→Rep C2 M2 w' (.own base) u) (hL:Le C' Ck M1 m w' w') {x y:AV} {u:Value} (h:Rep C' M1 w' x u) (hx:bDe m base k x=some y) (hr:A∨bDg y=true):Rep C2 M2 w' y u:=by
 have sv:∀ {x y:AV} {u:Value},Rep C' M1 w' x u→view m x=some y→(A∨bDg y=true)→Rep C2 M2 w' y u:=fun {x y u} h hv hr=>by
  rcases hr with hr | hr
  ·obtain ⟨h1,h2⟩:=hA hr
   have:=wU hM h1 h2 (h.mono hL) hv;have hle:Le (Ck.bare C2.F) C2 [] M2 w' w':=⟨fun _ _ h=>by simp at h,fun _ _ h=>by simp at h,fun _ _ h=>by simp at h,fun _ h=>h,fun _ _=>rfl⟩
   exact this.mono hle
  ·have:=wU (G:=fun b=>Ck.F b∨∃ (id:Nat) (o:AO),m[id]? = some (some o)∧o.live=true∧Ck.ι id=some b) hM (fun _ h => .inl h) (fun id o b h1 h2 h3 => .inr ⟨id,o,h1,h2,h3⟩) (h.mono hL) hv
   cases y with
   | own id=>cases this with | own _ _ _ ha _=>obtain ⟨o,ho⟩:=ha;simp at ho
   | _=>exact this.rig hr
 unfold bDe at hx
 split at hx
 ·rename_i id
  split at hx
  ·rename_i hb
   cases hx;have:=Nat.eq_of_beq_eq_true hb;subst this;exact hk u h
  ·exact sv h hx hr
 ·exact sv h hx hr

theorem aBp{C2:Cx}{M2 m:Mem}{Ck:Cx}{base k:Nat}{A:Prop}(hM:aU P Ck m w')
  (hA:A→(∀ b,Ck.F b→C2.F b)∧∀ (id:Nat) (o:AO) (b:Nat),m[id]? = some (some o)→o.live=true→Ck.ι id=some b→C2.F b)
  (hk:∀ u,Rep C' M1 w' (.own k) u→Rep C2 M2 w' (.own base) u) (hL:Le C' Ck M1 m w' w'):∀ {l ys:List AV} {us:Nat→Value},(∀ i (h:i<l.length),Rep C' M1 w' l[i] (us i))→bAf m base k l=some ys→(A∨aEb ys=true) →
   ys.length=l.length∧∀ i (h:i<ys.length),Rep C2 M2 w' ys[i] (us i)
 | [],ys,us,_,hx,_=>by cases hx;exact ⟨rfl,fun i h=>by simp at h⟩
 | x::r,ys,us,h,hx,hr=>by
  unfold bAf at hx
  split at hx
  ·rename_i y h1
   split at hx
   ·rename_i l h2
    cases hx;have Iy:A∨bDg y=true:=hr.imp id fun hr=>aPa (l:=y::l) hr 0 (by simp)
    have Gv:A∨aEb l=true:=hr.imp id fun hr=>by
     unfold aEb at hr
     split at hr
     ·exact hr
     ·cases hr
    obtain ⟨q1,q2⟩:=aBp hM hA hk hL (us:=fun i=>us (i+1)) (fun i hi=>h (i+1) (by simpa using hi)) h2 Gv
    refine ⟨by simp [q1],fun i hi => ?_⟩
    cases i with
    | zero=>exact aEc hM hA hk hL (h 0 (by simp)) h1 Iy
    | succ i=>exact q2 i (by simpa using hi)
   ·cases hx
  ·cases hx

theorem wT{C2:Cx}{M2 m:Mem}{Ck:Cx}{base k:Nat}{A:Prop}(hM:aU P Ck m w')
  (hA:A→(∀ b,Ck.F b→C2.F b)∧∀ (id:Nat) (o:AO) (b:Nat),m[id]? = some (some o)→o.live=true→Ck.ι id=some b→C2.F b)
  (hk:∀ u,Rep C' M1 w' (.own k) u→Rep C2 M2 w' (.own base) u) (hL:Le C' Ck M1 m w' w') {x y:AV} {u:Value} (h:Rep C' M1 w' x u) (hx:bQa m base k x=some y) (hr:A∨bDh y=true):Rep C2 M2 w' y u:=by
 unfold bQa at hx
 split at hx
 ·rename_i l
  split at hx
  ·rename_i ys hy
   cases hx;cases h with
   | tup _ vs h1 h2 =>
    obtain ⟨q1,q2⟩:=aBp hM hA hk hL (us:=fun i=>vs.getD i undef) h2 hy hr
    exact .tup _ _ (by omega) q2
  ·cases hx
 ·rename_i hn
  refine aEc hM hA hk hL h hx (hr.imp id fun hr => ?_)
  unfold bDh at hr
  split at hr
  ·exfalso
   unfold bDe at hx
   split at hx
   ·split at hx
    ·cases hx
    ·exact aPc hx
   ·exact aPc hx
  ·exact hr

theorem zW{f:Nat}{args A1:List AV}{r y:AV}{L:Upd}{base:Nat}(hm:kP args=true∧A1=args∨pC M args=some A1∧bDh y=true∧bDi L=true)(hb:fY M base=true)
  (ho:bDf M1 base r=some (y,L)) (h:FMM P f A1 [] r M1):FM P f args M y L:=by
 intro C w us hus hM n;obtain ⟨G,hG,hGs,hA,R8⟩:∃ G:Nat→Prop,(∀ b,C.F b→G b)∧(∀ b,G b→b<w.heap.size)∧((∀ b,G b→C.F b)∨bDh y=true∧bDi L=true)∧dL (C.bare G) [] w A1 us:=by
  rcases hm with ⟨hn,rfl⟩ | ⟨hv,Iy,Gv⟩
  ·refine ⟨C.F,fun _ h=>h,hM.Fs,.inl fun _ h=>h,?_⟩
   have:∀ {l:List AV} {us:List Value},kP l=true→dL C M w l us→dL (C.bare C.F) [] w l us:=by
    intro l
    induction l with
    | nil=>intro us _ h;cases h;exact .nil
    | cons x l ih =>
     intro us hn h;cases h with
     | cons _ u _ k hx hr =>
      have h0:=qT hn 0 (by simp)
      unfold kP at hn
      split at hn
      ·exact .cons _ _ _ _ (hx.noRef h0 (fun _ h=>h) (fun _ _=>rfl)) (ih hn hr)
      ·cases hn
   exact this hn hus
  ·refine ⟨fun b=>C.F b∨∃ (id:Nat) (o:AO),M[id]? = some (some o)∧o.live=true∧C.ι id=some b,fun _ h => .inl h,fun b h => ?_,.inr ⟨Iy,Gv⟩,?_⟩
   ·rcases h with h | ⟨id,o,h1,h2,h3⟩
    ·exact hM.Fs b h
    ·exact hM.lt id o b h1 h2 h3
   ·obtain ⟨q1,q2⟩:=mL (G:=fun b=>C.F b∨∃ (id:Nat) (o:AO),M[id]? = some (some o)∧o.live=true∧C.ι id=some b) hM (fun _ h => .inl h) (fun id o b h1 h2 h3 => .inr ⟨id,o,h1,h2,h3⟩) (us:=fun i=>us.getD i undef) (fun i hi=>hus.at i hi) hv
    have:=dL.ofArr (l:=A1) (us:=us.toArray) (by simp [hus.len,q1]) (fun i hi=>by rw [cI];exact q2 i hi)
    exact this
 have Dk:aU P (C.bare G) [] w:=⟨fun _ _ _ _ h=>by simp at h,fun _ _ _ h=>by simp at h,fun _ _ _ h=>by simp at h,fun _ _ _ _ _ h=>by simp at h,fun _ _ _ h=>by simp at h,hGs,fun _ _ _ h=>by simp at h⟩
 refine (h (C.bare G) w us R8 Dk n).mono ?_;rintro e w' ⟨u,rfl,C',hF,Cp,hr⟩;refine ⟨u,rfl,?_⟩;have hkeep:∀ b,b<w.heap.size→w'.heap[b]? = w.heap[b]? := fun b hb=>hF.keep b hb (fun id o h=>by simp at h)
 have hnew:∀ (id:Nat) (o:AO) (b:Nat),M1[id]? = some (some o)→o.live=true→C'.ι id=some b→w.heap.size≤b:=fun id o b h1 h2 h3=>by
  rcases hF.new id o b h1 h2 h3 with h4 | ⟨_,_,h4,_⟩
  ·exact h4
  ·simp at h4
 have Hg:∀ b,C'.F b→G b∨w.heap.size≤b:=fun b hb=>by
  rcases hF.F2 b hb with h4 | h4 | ⟨_,_,h4,_⟩
  ·exact .inl h4
  ·exact .inr h4
  ·simp at h4
 have hfree:=cZ hb;unfold bDf at ho
 split at ho
 ·rename_i k hk
  split at ho
  ·rename_i q hq
   split at ho
   ·rename_i y' hy
    cases ho;have hok:=dR hq;have hmk:=rB Cp (id:=k) false hok rfl;have hlk:=Cp.le (dM (C:=C') (w:=w') (id:=k) false hok rfl);obtain ⟨f1,m1⟩:=aPd (C:=C) (M:=M) (w:=w) (w':=w') (kb:=C'.ι k) hM hF.os hF.tape hF.out hF.size hkeep;have hAA:(∀ b,G b→C.F b)→(∀ b,(C'.close k false).F b→(C.after w w' (C'.ι k)).F b)∧∀ (id:Nat) (o:AO) (b:Nat),(upds M1 [(k,.dead)])[id]? = some (some o)→o.live=true→(C'.close k false).ι id=some b→(C.after w w' (C'.ι k)).F b:=by
     intro hGC;refine ⟨fun b hb => ?_,fun id o b h1 h2 h3 => ?_⟩
     ·have A4:C'.F b:=by rcases hb with hb | ⟨hb,_⟩;exact hb;cases hb
      rcases Hg b A4 with h4 | h4
      ·exact .inl (hGC b h4)
      ·exact .inr ⟨h4,Cp.Fs b A4,fun e=>Cp.nF _ _ _ hok rfl e A4⟩
     ·simp only [upds] at h1
      have hne:k≠id:=fun e=>by subst e;rw [aY] at h1;cases h1;cases h2
      have Jr:=(aT M1 k id _ _ hne).1 h1;exact .inr ⟨hnew id o b Jr h2 h3,Cp.lt id o b Jr h2 h3,fun e=>hne (Cp.inj _ _ _ _ _ hok rfl Jr h2 e h3)⟩
    cases hkb:C'.ι k with
    | none =>
     rw [hkb] at hAA f1 m1
     obtain ⟨hz,hcs⟩:q.2.1=0∧q.2.2=[]:=by
      rcases Cp.row _ _ _ _ hok with ⟨_,hz,hcs⟩ | ⟨b,_,_,hb,_⟩
      ·exact ⟨hz,hcs⟩
      ·rw [hkb] at hb;cases hb
     rw [hz,hcs];have m2:=yS (ty:=q.1) m1 hfree;have f2:=yR (ty:=q.1) (C:=C.after w w' none) (w:=w') hfree;have hle:=m1.le f2;refine ⟨_,f1.trans f2,m2,?_⟩;refine wT (C2:=(C.after w w' none).nil base) (M2:=upds M [(base,.row q.1 0 [])]) (A:=∀ b,G b→C.F b) hmk (fun h=>⟨fun b hb=>(hAA h).1 b hb,fun id o b h1 h2 h3=>(hAA h).2 id o b h1 h2 h3⟩) (fun v hv => ?_) hlk hr hy (hA.imp id (·.1))
     cases hv with
     | own _ _ h0 ha hrow =>
      rcases hrow _ _ _ hok with ⟨rfl,_,_⟩ | ⟨b,_,hb⟩
      ·exact .own base _ rfl ⟨_,aY ..⟩ (fun ty n cs h=>by simp only [upds] at h;rw [aY] at h;cases h;exact .inl ⟨rfl,by simp [Cx.nil],rfl⟩)
      ·rw [hkb] at hb;cases hb
    | some b =>
     rw [hkb] at hAA f1 m1
     rcases Cp.row _ _ _ _ hok with ⟨hn,_⟩ | ⟨b',arr,inf,A4,q1,q2,q3,q4,q5,q6,q7,q8⟩
     ·rw [hkb] at hn;cases hn
     rw [hkb] at A4;cases A4
     have hbn:=hnew k _ b hok rfl hkb;have hbl:=Cp.lt k _ b hok rfl hkb;have hcell:∀ j (h:j<q.2.2.length),cM (C.after w w' (some b)).F w' q.2.2[j] (arr.getD j undef):=fun j hj=>by
      rcases hA with hGC | ⟨_,Gv⟩
      ·exact (q7 j hj).mono (fun b hb=>(hAA hGC).1 b (.inl hb)) (fun _ _=>rfl)
      ·simp only [bDi] at Gv
       split at Gv
       ·rename_i hcs
        exact (q7 j hj).rig (aEd hcs j hj)
       ·cases Gv
     obtain ⟨m2,C6⟩:=bQb (base:=base) (b:=b) (k:=C'.κ k) (ty:=q.1) (n:=q.2.1) (cs:=q.2.2) m1 hfree (fun hF=>by
      rcases hF with hF | ⟨_,_,hF⟩
      ·have:=hM.Fs b hF;omega
      ·exact hF rfl) (fun i x j h1 h2 h3=>by have:=hM.lt i x j h1 h2 h3;omega) hbl ⟨arr,inf,q1,q2,q3,q4,q5,q6,hcell,q8⟩
     refine ⟨_,?_,m2,?_⟩
     ·have hne:∀ (i:Nat) (x:AO),M[i]? = some (some x)→i≠base:=fun i x h e=>hfree x (e ▸ h)
      refine ⟨f1.os,f1.tape,f1.out,f1.size,f1.keep,fun i x h=>⟨C6.ids i x h,by simp [Cx.grow,Cx.after,hne i x h],by simp [Cx.grow,Cx.after,hne i x h]⟩,C6.row,fun i x h o' h1 h2=>(C6.liv i x h o' h1 h2).1,fun i x j h1 h2 h3 => ?_,f1.F1,f1.F2⟩
      by_cases e:i=base
      ·subst e
       simp only [Cx.grow,if_true] at h3
       cases h3;exact .inl hbn
      ·simp only [Cx.grow,e,if_false] at h3
       exact f1.new i x j ((aT M base i _ _ (fun e'=>e e'.symm)).1 h1) h2 h3
     ·refine wT (C2:=(C.after w w' (some b)).grow base b (C'.κ k)) (M2:=upds M [(base,.row q.1 q.2.1 q.2.2)]) (A:=∀ b,G b→C.F b) hmk (fun h=>⟨fun b hb=>(hAA h).1 b hb,fun id o b h1 h2 h3=>(hAA h).2 id o b h1 h2 h3⟩) (fun v hv => ?_) hlk hr hy (hA.imp id (·.1))
      cases hv with
      | own _ _ h0 ha hrow =>
       rcases hrow _ _ _ hok with ⟨_,hn,_⟩ | ⟨b',rfl,hb⟩
       ·rw [hkb] at hn;cases hn
       ·rw [hkb] at hb;cases hb
        exact .own base _ rfl ⟨_,aY ..⟩ (fun ty n cs h=>by simp only [upds] at h;rw [aY] at h;cases h;exact .inr ⟨b,by simp [Cx.grow],by simp [Cx.grow]⟩)
   ·cases ho
  ·cases ho
 ·rename_i hk
  split at ho
  ·rename_i y' hy
   cases ho;obtain ⟨f1,m1⟩:=aPd (C:=C) (M:=M) (w:=w) (w':=w') (kb:=none) hM hF.os hF.tape hF.out hF.size hkeep;refine ⟨_,f1,m1,?_⟩;refine wT (C2:=C.after w w' none) (M2:=upds M []) (A:=∀ b,G b→C.F b) Cp (fun hGC=>⟨fun b hb => ?_,fun id o b h1 h2 h3 => .inr ⟨hnew id o b h1 h2 h3,Cp.lt id o b h1 h2 h3,nofun⟩⟩) (fun v hv => ?_) ⟨fun i o h=>⟨o,h⟩,fun _ _ _ _ _ cs h=>⟨cs,h⟩,fun _ o h o' h' hl=>by rw [h] at h';cases h';exact ⟨hl,rfl,rfl⟩,fun _ h=>h,fun _ _=>rfl⟩ hr hy (hA.imp id (·.1))
   ·rcases Hg b hb with h4 | h4
    ·exact .inl (hGC b h4)
    ·exact .inr ⟨h4,Cp.Fs b hb,nofun⟩
   ·cases hv with
    | own _ _ h0 ha hrow =>
     obtain ⟨o,ho⟩:=ha;rw [List.getElem?_eq_none (dF _)] at ho
     cases ho
  ·cases ho
end
section
variable {P:Program} {T:TT} {E:Env} {C C':Cx} {M M1 M2:Mem} {w w':World}

def s0:AS:={ auto:=true,o:=[],obs:=[] }

end
section
variable {P:Program} {T:TT} {E:Env} {C C0:Cx} {M M0:Mem} {w w0:World}

def aD(P:Program)(k:Nat)(b:Code)(st:St)(e:Ex)(Am:St):Prop:=∀ (C0:Cx) (M0:Mem) (w0:World) (a:Act) (w:World),M0.length≤k→Sim P C0 M0 w0 st a w→∀ (ro:Option Nat),mU ro b→∀ (n:Nat),LoopIn (Fen ro) n P b (fun e' a' w'=>e'=e.toExit∧Sim P C0 M0 w0 Am a' w') a w

section
variable {k:Nat} {b:Code} {st st1 Am:St} {e:Ex}
theorem aD.step(h:aC P k b st .normal st1)(hr:aD P k b st1 e Am):aD P k b st e Am:=fun C0 M0 w0 a w hk hs ro hro n=>LoopIn.step (wpIn_mono (h C0 M0 w0 a w hk hs ro hro n) fun e' a' w' hq=>by
 obtain ⟨rfl,Cj⟩:=hq;exact hr C0 M0 w0 a' w' hk Cj ro hro n)
theorem aD.exit(h:aC P k b st e Am)(he:e ≠ .normal):aD P k b st e Am:=fun C0 M0 w0 a w hk hs ro hro n=>LoopIn.step (wpIn_mono (h C0 M0 w0 a w hk hs ro hro n) fun e' a' w' hq=>by
 obtain ⟨rfl,Cj⟩:=hq;cases e with
 | normal=>exact absurd rfl he
 | ret=>exact ⟨rfl,Cj⟩
 | exit id=>exact ⟨rfl,Cj⟩)
theorem aD.code(h:aD P k b st e Am):aC P k (.loop b) st e Am:=fun C0 M0 w0 a w hk hs ro hro n=>LoopIn.wp (h C0 M0 w0 a w hk hs ro hro.loop n)
theorem aD.range{α β:Type}(S:Nat→β→St)(R:β→St)(f:β→α→β)(Inv:Nat→β→Prop)(he:e ≠ .normal)(l:List α){a0:β}(h0:Inv 0 a0)
  (hs:∀ (i:Nat) (x:α) (acc:β),l[i]? = some x→Inv i acc→Inv (i+1) (f acc x)∧aC P k b (S i acc) .normal (S (i+1) (f acc x)))
  (hx:∀ acc,Inv l.length acc→aC P k b (S l.length acc) e (R acc)):aD P k b (S 0 a0) e (R (l.foldl f a0)):=by
 have key:∀ (r:List α) (i:Nat) (acc:β),l.drop i=r→i≤l.length→Inv i acc→aD P k b (S i acc) e (R (r.foldl f acc)):=by
  intro r
  induction r with
  | nil =>
   intro i acc hd hi hI;have:i=l.length:=by have:=congrArg List.length hd;simp at this;omega
   subst this;exact .exit (hx _ hI) he
  | cons x r ih =>
   intro i acc hd hi hI;have hl:l[i]? = some x:=by
    have:=congrArg (·[0]?) hd
    simpa using this
   obtain ⟨h1,h2⟩:=hs i x acc hl hI;have hlt:i<l.length:=(Ca.1 hl).1;refine .step h2 (ih (i+1) _ ?_ (by omega) h1)
   have:=congrArg List.tail hd;simpa [List.tail_drop] using this
 exact key l 0 a0 (by simp) (Nat.zero_le _) h0

end

def FV(P:Program)(f:Nat)(args:List AV)(base:Nat)(y:AV)(L:Upd):Prop:=∃ r M1,FMM P f args [] r M1∧bDf M1 base r=some (y,L)

theorem FV.fc{f base:Nat}{args:List AV}{y:AV}{L:Upd}{bs:List (Nat × AO)}(h:FV P f args base y L)(hn:kP args=true):FC P f args bs base y L:=fun M _ hb _=>by
 obtain ⟨r,M1,h1,h2⟩:=h;exact zW (.inl ⟨hn,rfl⟩) hb h2 h1

def aTn(m M:Mem):Prop:=∀ (id:Nat) (o:AO),cB m id=some o→cB M id=some o
section
variable {m:Mem}
theorem aLq(hs:aTn m M){id:Nat}{r:Nat × Nat × List PV}(h:gH m id=some r):gH M id=some r:=by
 have:=bK.2 (dR h);unfold gH;rw [hs _ _ this]
theorem bDd(hs:aTn m M){x:AV}{y:PV}(h:Fv m x=some y):Fv M x=some y:=by
 unfold Fv at h ⊢
 split at h
 ·exact h
 ·exact h
 ·split at h
  ·rename_i hr
   rw [aLq hs hr];exact h
  ·cases h
 ·cases h
theorem aIp(hs:aTn m M):∀ {l:List AV} {ys:List PV},aEz m l=some ys→aEz M l=some ys
 | [],_,h=>h
 | x::r,ys,h=>by
  unfold aEz at h ⊢
  split at h
  ·rename_i h1
   split at h
   ·rename_i h2
    rw [bDd hs h1,aIp hs h2];exact h
   ·cases h
  ·cases h
mutual
theorem bPy(hs:aTn m M):∀ {x y:AV},view m x=some y→view M x=some y
 | .p x,y,h=>by simp only [view] at h ⊢;exact h
 | .kb b,y,h=>by simp only [view] at h ⊢;exact h
 | .any,y,h=>by simp only [view] at h ⊢;exact h
 | .yld l,y,h=>by simp only [view] at h ⊢;exact h
 | .rp cs o,y,h=>by simp only [view] at h ⊢;exact h
 | .own id,y,h=>by
  simp only [view] at h ⊢
  split at h
  ·rename_i hr
   rw [aLq hs hr];exact h
  ·cases h
 | .arr id off n,y,h=>by
  simp only [view] at h ⊢
  split at h
  ·rename_i hr
   rw [aLq hs hr];exact h
  ·cases h
 | .ptr id off,y,h=>by
  simp only [view] at h ⊢
  split at h
  ·rename_i hr
   rw [hs _ _ hr];exact h
  ·rename_i hr
   rw [hs _ _ hr]
   split at h
   ·rename_i hc
    simp only [aIp hs hc];exact h
   ·cases h
  ·cases h
 | .agg l,y,h=>by
  simp only [view] at h ⊢
  split at h
  ·rename_i hr
   rw [qR hs hr];exact h
  ·cases h
 | .fn f a b,y,h=>by
  simp only [view] at h ⊢
  split at h
  ·rename_i ha
   split at h
   ·rename_i hb
    rw [qR hs ha,qR hs hb];exact h
   ·cases h
  ·cases h
 | .tup l,y,h=>by simp [view] at h
 | .mp i,y,h=>by simp [view] at h
theorem qR(hs:aTn m M):∀ {l ys:List AV},pC m l=some ys→pC M l=some ys
 | [],_,h=>by simp only [pC] at h ⊢;exact h
 | x::r,ys,h=>by
  simp only [pC] at h ⊢
  split at h
  ·rename_i h1
   split at h
   ·rename_i h2
    rw [bPy hs h1,qR hs h2];exact h
   ·cases h
  ·cases h
end
end
theorem sY:∀ (bs:Upd) (m:Mem) (id:Nat) (o:AO),cB (upds m bs) id=some o→(id,o)∈bs∨cB m id=some o
 | [],_,_,_,h => .inr h
 | (i,x)::r,m,id,o,h=>by
  rcases sY r _ id o h with h1 | h1
  ·exact .inl (Ch _ h1)
  ·rw [dG] at h1
   split at h1
   ·rename_i e
    subst e;cases h1;exact .inl (gA ..)
   ·exact .inr h1
theorem FV.view{f base:Nat}{args A1:List AV}{y:AV}{L:Upd}{bs:List (Nat × AO)}(h:FV P f A1 base y L)(hv:pC (upds [] bs) args=some A1)(h1:bDh y=true)(h2:bDi L=true):FC P f args bs base y L:=fun M hb hf _=>by
 obtain ⟨r,M1,h3,h4⟩:=h;refine zW (.inr ⟨qR (fun id o ho => ?_) hv,h1,h2⟩) hf h4 h3
 rcases sY bs [] id o ho with h5 | h5
 ·exact hb _ h5
 ·simp [cB] at h5
end
section
noncomputable abbrev Tp:=Tryz.prog

inductive Tr (α:Type) where
 | nil
 | node (v:Option α) (l r:Tr α)
def Tr.get{α:Type}:Tr α→Nat→Option α
 | .nil,_=>none
 | .node v l r,k=>match Nat.beq k 0 with
  | true=>v
  | false=>match Nat.beq (Nat.mod k 2) 1 with
   | true=>l.get (Nat.div k 2)
   | false=>r.get (Nat.sub (Nat.div k 2) 1)
def Tr.all{α:Type}(f:Nat→Nat):Tr α→List (Nat × α)
 | .nil=>[]
 | .node v l r=>(match v with | some x=>[(f 0,x)] | none=>[])++l.all (fun k=>f (2*k+1))++r.all (fun k=>f (2*k+2))
theorem Tr.get_all{α:Type}:∀ (t:Tr α) (f:Nat→Nat) (k:Nat) (x:α),t.get k=some x→(f k,x)∈t.all f
 | .nil,_,_,_,h=>by cases h
 | .node v l r,f,k,x,h=>by
  unfold Tr.get at h
  unfold Tr.all
  split at h
  ·rename_i hb
   have hk:=Nat.eq_of_beq_eq_true hb;subst hk;subst h;exact pN _ (pN _ (gA ..))
  ·rename_i hb
   have hk:=Nat.ne_of_beq_eq_false hb
   split at h
   ·rename_i h1
    have h1:k % 2=1:=Nat.eq_of_beq_eq_true h1;have:=Tr.get_all l (fun k=>f (2*k+1)) _ x h
    refine pN _ (aCy _ ?_);have e:2*(k / 2)+1=k:=by omega
    have e':2*Nat.div k 2+1=k:=e;simp only [e'] at this
    exact this
   ·rename_i h1
    have h1:k % 2≠1:=Nat.ne_of_beq_eq_false h1;have:=Tr.get_all r (fun k=>f (2*k+2)) _ x h
    refine aCy _ ?_;have e:2*(k / 2-1)+2=k:=by omega
    have e':2*Nat.sub (Nat.div k 2) 1+2=k:=e;simp only [e'] at this
    exact this

abbrev tL(v:Option TI):Tr TI := .node v .nil .nil
abbrev Gw:Option TI:=some ⟨.func,1,8,[.nilFunc],true⟩
abbrev O4:Option TI:=some ⟨.int .i64,1,8,[.int .i64 0],true⟩
abbrev Sv:Option TI:=some ⟨.int .u64,1,8,[.int .u64 0],true⟩
abbrev U9:Option TI:=some ⟨.struct [(0,3,true),(1,3,true)],2,16,[.int .i64 0,.int .i64 0],true⟩
abbrev Va:Option TI:=some ⟨.struct [(0,3,true),(1,3,true),(2,3,true)],3,24,[.int .i64 0,.int .i64 0,.int .i64 0],true⟩
def tTr:Tr TI := .node none (.node Gw (.node O4 (.node none (.node none (.node U9 (.node none (tL (some ⟨.int .u32,1,4,[.int .u32 0],true⟩)) (tL (some ⟨.ptr 197,1,8,[.pointer none],true⟩))) (.node none (tL Gw) .nil)) (.node none (.node none .nil (tL (some ⟨.map 3 4,1,8,[.map none],true⟩))) .nil)) (.node (some ⟨.slice 31,1,24,[.slice none 0 0],true⟩) (.node none (tL (some ⟨.slice 76,1,24,[.slice none 0 0],true⟩)) .nil) (.node none .nil (tL (some ⟨.struct [(0,3,true),(1,3,true),(2,3,true),(3,3,true),(4,3,true),(5,3,true)],6,48,.int .i64 0::List.replicate 5 (.int .i64 0),true⟩))))) (.node none (.node none (.node none (.node none .nil (tL (some ⟨.struct [(0,192,true),(1,193,true)],3,40,[.slice none 0 0,.int .i64 0,.int .i64 0],true⟩))) (.node none .nil (tL (some ⟨.struct [(0,125,true)],1,8,[.nilFunc],true⟩)))) .nil) (.node none (.node none (.node none (tL (some ⟨.struct [(0,124,true),(1,136,true),(2,124,true),(3,137,true),(4,136,true)],5,40,.nilFunc::List.replicate 4 (.nilFunc),true⟩)) (tL Gw)) .nil) (.node (some ⟨.slice 119,1,24,[.slice none 0 0],true⟩) (.node none (tL Gw) .nil) .nil)))) (.node (some ⟨.int .u8,1,1,[.int .u8 0],true⟩) (.node (some ⟨.str,1,16,[.string { data := #[] }],true⟩) (.node none (.node (some ⟨.slice 3,1,24,[.slice none 0 0],true⟩) (.node none (.node none (tL (some ⟨.ptr 245,1,8,[.pointer none],true⟩)) .nil) (tL (some ⟨.array 2 3,2,16,[.int .i64 0,.int .i64 0],true⟩))) (.node none .nil (tL Sv))) (.node none (.node none .nil (tL Gw)) (.node none (tL Gw) .nil))) (.node none (.node none (.node U9 (tL Gw) (tL Gw)) .nil) (.node none (.node none (tL Gw) (tL O4)) (.node (some ⟨.struct [(0,4,true),(1,4,true),(2,4,true),(3,4,true),(4,3,true),(5,3,true),(6,3,true)],7,32,[.bool false,.bool false,.bool false,.bool false,.int .i64 0,.int .i64 0,.int .i64 0],true⟩) .nil (tL (some ⟨.ptr 3,1,8,[.pointer none],true⟩)))))) (.node none (.node none (.node none (.node (some ⟨.slice 33,1,24,[.slice none 0 0],true⟩) .nil (tL (some ⟨.struct [(0,3,true),(1,4,true),(2,33,true)],3,40,[.int .i64 0,.bool false,.slice none 0 0],true⟩))) .nil) (.node none .nil (.node none .nil (tL Sv)))) (.node none (.node none .nil (.node none (tL (some ⟨.map 3 44,1,8,[.map none],true⟩)) .nil)) (.node (some ⟨.struct [(0,3,true),(1,58,true),(2,59,true)],3,56,[.int .i64 0,.slice none 0 0,.slice none 0 0],true⟩) (.node none (tL Gw) .nil) (tL Gw)))))) (.node O4 (.node (some ⟨.bool,1,1,[.bool false],true⟩) (.node none (.node none (.node none (.node none .nil (tL (some ⟨.slice 197,1,24,[.slice none 0 0],true⟩))) (tL Gw)) (.node Va (.node none .nil (tL Gw)) (.node none (tL (some ⟨.struct [(0,26,true),(3,173,true),(4,174,true)],5,72,[.int .i64 0,.slice none 0 0,.slice none 0 0,.map none,.map none],true⟩)) .nil))) (.node (some ⟨.slice 44,1,24,[.slice none 0 0],true⟩) (.node none (.node none (tL Gw) .nil) (.node none .nil (tL Gw))) .nil)) (.node none (.node none (.node none (tL (some ⟨.slice 71,1,24,[.slice none 0 0],true⟩)) (.node none .nil (tL (some ⟨.array 5 227,5,40,.nilFunc::List.replicate 4 (.nilFunc),true⟩)))) (.node none .nil (tL (some ⟨.slice 121,1,24,[.slice none 0 0],true⟩)))) (.node none (.node (some ⟨.struct [(0,3,true),(1,42,true),(2,3,true),(3,3,true),(4,3,true),(5,3,true)],6,48,.int .i64 0::List.replicate 5 (.int .i64 0),true⟩) (tL Va) (.node none (tL Sv) .nil)) (.node none .nil (tL Gw))))) (.node (some ⟨.int .u8,1,1,[.int .u8 0],true⟩) (.node none (.node none (.node O4 (.node none (tL (some ⟨.ptr 176,1,8,[.pointer none],true⟩)) .nil) .nil) (.node none (.node none (tL Gw) .nil) (.node none (tL Gw) .nil))) (.node (some ⟨.struct [(0,3,true),(1,23,true),(2,24,true)],3,56,[.int .i64 0,.slice none 0 0,.slice none 0 0],true⟩) (.node O4 (.node none .nil (tL Gw)) .nil) (.node (some ⟨.slice 73,1,24,[.slice none 0 0],true⟩) .nil (.node none (tL (some ⟨.slice 195,1,24,[.slice none 0 0],true⟩)) .nil)))) (.node none (.node none (tL (some ⟨.slice 48,1,24,[.slice none 0 0],true⟩)) .nil) (.node none (.node none (.node none .nil (tL Gw)) (.node none (tL (some ⟨.map 3 24,1,8,[.map none],true⟩)) .nil)) .nil))))
def tT:TT:=tTr.get

set_option maxRecDepth 100000 in
theorem cDi:(tTr.all id).map (fun p=>cQ Tryz.prog p.1)=(tTr.all id).map fun p=>some p.2:=by kernel_rfl
theorem aJt:∀ t i,tT t=some i→cQ Tryz.prog t=some i:=fun t i h=>by
 have h1:=Tr.get_all tTr id t i h;obtain ⟨j,hj,hx⟩:=List.getElem_of_mem h1;have h2:=congrArg (fun l=>l[j]?) cDi
 simp only [fV,Ay hj,hx,Option.map_some,id,Option.some.injEq] at h2
 exact h2

def okF(P:Program)(f:Nat):Bool:=match P.funcs[f]? with
 | some fn => !(fn.name == "runtime.NumGoroutine") && fn.body.isSome
 | none=>false
theorem bXc{P:Program}{f:Nat}(h:okF P f=true)(args:Array Value)(w:World):(callFunc f args).run P w = .ok (.enter f args) w:=by
 unfold okF at h
 split at h
 ·rename_i fn hf
  simp only [Ce,Bool.not_eq_true'] at h
  have hn : ¬ fn.name = "runtime.NumGoroutine" := by simpa using h.1
  have hb:¬ fn.body=none:=fun e=>by rw [e] at h;cases h.2
  unfold callFunc;simp [hf,hn,hb]
 ·cases h
def ok(f:Nat):Bool:=match Nat.ble 2 f with
 | true=>Nat.ble f 228
 | false=>false
set_option maxRecDepth 100000 in
theorem cDj:((List.range 229).drop 2).all (okF Tryz.prog)=true:=by kernel_rfl
theorem cDk:∀ f,ok f=true→∀ args w,(callFunc f args).run Tryz.prog w = .ok (.enter f args) w:=fun f h=>by
 unfold ok at h
 split at h
 ·rename_i h2
  have h2:=Nat.le_of_ble_eq_true h2;have h3:=Nat.le_of_ble_eq_true h;have:=cDj;rw [gB] at this
  refine bXc (this f ?_);rw [List.mem_iff_getElem];exact ⟨f-2,by simp;omega,by simp;omega⟩
 ·cases h
theorem mixed:Tryz.prog.follows .mixedOrders=true:=by kernel_rfl
end
section
variable {P:Program} {T:TT} {E:Env} {C C0:Cx} {M M0 M1:Mem} {w w0:World}

def bkI(ids:List Nat)(base j:Nat):Option Nat:=match ids[j]? with
 | some i=>some i
 | none=>match Nat.beq j ids.length with
  | true=>some base
  | false=>none
def pP(ids:List Nat)(base:Nat):List Nat→Mem→Option Upd
 | i::r,some o::m=>match mpO (bkI ids base) o with
  | some o'=>(pP ids base r m).map ((i,o') :: ·)
  | none=>none
 | [],[]=>some []
 | [],[some o]=>match mpO (bkI ids base) o with
  | some o'=>some [(base,o')]
  | none=>none
 | _,_=>none

theorem aJu{Jb:List Nat}{base:Nat}:∀ {ids:List Nat} {m:Mem} {L:Upd},pP Jb base ids m=some L→ids.Nodup→base∉ids →
  (m.length=ids.length∨m.length=ids.length+1) ∧
  ∀ (N:Mem),(∀ (p i:Nat) (o':AO),ids[p]? = some i→(cB (upds N L) i=some o'↔∃ o,m[p]? = some (some o)∧mpO (bkI Jb base) o=some o')) ∧
   (m.length=ids.length+1→∀ (o':AO),(cB (upds N L) base=some o'↔∃ o,m[ids.length]? = some (some o)∧mpO (bkI Jb base) o=some o')) ∧
   (m.length=ids.length→cB (upds N L) base=cB N base) ∧
   ∀ j,j∉ids→j≠base→cB (upds N L) j=cB N j
 | [],[],L,h,_,_=>by
  unfold pP at h;cases h
  refine ⟨.inl rfl,fun N=>⟨fun p i o' hp=>by simp at hp,fun h=>by simp at h,fun _=>rfl,fun _ _ _=>rfl⟩⟩
 | [],[some o],L,h,_,_=>by
  unfold pP at h
  split at h
  ·rename_i o' ho
   cases h;refine ⟨.inr rfl,fun N=>⟨fun p i o' hp=>by simp at hp,fun _ o2 => ?_,fun h=>by simp at h,fun j _ hj => ?_⟩⟩
   ·simp only [upds]
    rw [dG,if_pos rfl];constructor
    ·intro h;cases h;exact ⟨o,rfl,ho⟩
    ·rintro ⟨o3,h3,h4⟩
     simp at h3;subst h3
     rw [ho] at h4;exact h4
   ·simp only [upds]
    rw [dG,if_neg (Ne.symm hj)]
  ·cases h
 | i::r,some o::m,L,h,hd,hb=>by
  unfold pP at h
  split at h
  ·rename_i o' ho
   simp only [lM] at h
   obtain ⟨L',Kr,rfl⟩:=h;obtain ⟨Mb,Ma⟩:=List.nodup_cons.1 hd;have Dm:base≠i:=fun e=>hb (by simp [e])
   have Fw:base∉r:=fun e=>hb (Ch _ e)
   obtain ⟨q1,q2⟩:=aJu (ids:=r) Kr Ma Fw;refine ⟨by simpa using q1,fun N => ?_⟩
   obtain ⟨r1,r2,r3,r4⟩:=q2 (bB N i (some o'));refine ⟨fun p j o2 hp => ?_,fun hl o2 => ?_,fun hl => ?_,fun j hj hne => ?_⟩
   ·cases p with
    | zero =>
     simp at hp;subst hp
     simp only [upds];rw [r4 i Mb (Ne.symm Dm),dG,if_pos rfl];constructor
     ·intro h;cases h;exact ⟨o,rfl,ho⟩
     ·rintro ⟨o3,h3,h4⟩
      simp at h3;subst h3
      rw [ho] at h4;exact h4
    | succ p =>
     simp only [upds];rw [List.getElem?_cons_succ] at hp
     rw [r1 p j o2 hp];rfl
   ·have:=r2 (by simpa using hl) o2
    simpa [upds] using this
   ·simp only [upds]
    rw [r3 (by simpa using hl),dG,if_neg (Ne.symm Dm)]
   ·simp only [upds]
    rw [r4 j (fun e=>hj (Ch _ e)) hne,dG,if_neg (fun e=>hj (by simp [e]))]
  ·cases h
 | [],none::_,L,h,_,_=>by unfold pP at h;cases h
 | [],some _::_::_,L,h,_,_=>by unfold pP at h;cases h
 | _::_,[],L,h,_,_=>by unfold pP at h;cases h
 | _::_,none::_,L,h,_,_=>by unfold pP at h;cases h

theorem aFu{Jb:List Nat}{base:Nat}:∀ {ids:List Nat} {m:Mem} {L:Upd},pP Jb base ids m=some L→∀ (p:Nat) (o1:AO),m[p]? = some (some o1)→∃ o',mpO (bkI Jb base) o1=some o'
 | [],[],L,h,p,o1,hp=>by simp at hp
 | [],[some o],L,h,p,o1,hp=>by
  unfold pP at h
  split at h
  ·rename_i hx
   cases p with
   | zero=>simp at hp;subst hp;exact ⟨_,hx⟩
   | succ p=>simp at hp
  ·cases h
 | i::r,some o::m,L,h,p,o1,hp=>by
  unfold pP at h
  split at h
  ·rename_i hx
   simp only [lM] at h
   obtain ⟨L',Kr,_⟩:=h;cases p with
   | zero=>simp at hp;subst hp;exact ⟨_,hx⟩
   | succ p=>exact aFu Kr p o1 (by simpa using hp)
  ·cases h
 | [],none::_,L,h,_,_,_=>by unfold pP at h;cases h
 | [],some _::_::_,L,h,_,_,_=>by unfold pP at h;cases h
 | _::_,[],L,h,_,_,_=>by unfold pP at h;cases h
 | _::_,none::_,L,h,_,_,_=>by unfold pP at h;cases h

def Cx.back(C C1:Cx)(ids:List Nat)(base:Nat):Cx :=
 {ι:=fun j=>match idx ids j 0 with | some p=>C1.ι p | none=>if j=base then C1.ι ids.length else C.ι j
  κ:=fun j=>match idx ids j 0 with | some p=>C1.κ p | none=>if j=base then C1.κ ids.length else C.κ j
  F:=C1.F }
theorem sD:∀ {ids:List Nat},ids.Nodup→∀ {p i:Nat} (n:Nat),ids[p]? = some i→idx ids i n=some (n+p)
 | [],_,p,i,n,h=>by simp at h
 | a::r,hd,p,i,n,h=>by
  obtain ⟨h1,h2⟩:=List.nodup_cons.1 hd;unfold idx;cases p with
  | zero=>simp at h;subst h;simp
  | succ p =>
   rw [List.getElem?_cons_succ] at h
   have hne:a≠i:=fun e=>h1 (e ▸ Bl h)
   have hb:Nat.beq a i=false:=by
    cases hq:Nat.beq a i with
    | false=>rfl
    | true=>exact absurd (Nat.eq_of_beq_eq_true hq) hne
   rw [hb];have:=sD h2 (n+1) h;simp only [this]
   congr 1;omega

theorem aMt{f:Nat→Option Nat}{C':Cx}{M':Mem}(hm:bDm f C C' M M'):∀ {l ys:List AV} {us:List Value},dL C M w l us→mpL f l=some ys→dL C' M' w ys us
 | [],ys,us,h,hr=>by cases h;simp only [mpL] at hr;cases hr;exact .nil
 | x::r,ys,us,h,hr=>by
  cases h with
  | cons _ u _ k hx hk =>
   simp only [mpL] at hr
   split at hr
   ·rename_i y hy
    simp only [lM] at hr
    obtain ⟨r',Hj,rfl⟩:=hr;exact .cons _ _ _ _ (vF hm hx hy) (aMt hm hk Hj)
   ·cases hr

theorem bXd{base:Nat}{ids:List Nat}{r y:AV}{L:Upd}{C1:Cx}{w':World}{u:Value}(hd:distinct 0 ids=true)(hb:fY M base=true)
  (hs:rnM 0 ids (ids.map (at? M))=some M0) (hlv:∀ i∈ids,eP M i=true) (hU:pP ids base ids M1=some L) (hy:mpA (bkI ids base) r=some y)
  (hM:aU P C M w) (hF:Fr (C.rn 0 ids) M0 w C1 M1 w') (Cp:aU P C1 M1 w') (hr:Rep C1 M1 w' r u):Fr C M w (C.back C1 ids base) (upds M L) w'∧aU P (C.back C1 ids base) (upds M L) w'∧Rep (C.back C1 ids base) (upds M L) w' y u:=by
 obtain ⟨_,hnd⟩:=jS hd;obtain ⟨Dk,hmp,hsrc⟩:=tC (k:=0) hM hd hs;have hlen:M0.length=ids.length:=by have:=(aEh hs).1;simpa using this
 have hbn:base∉ids:=fun hm=>by
  obtain ⟨o,h1,_⟩:=dW (hlv _ hm);exact cZ hb o h1
 obtain ⟨hl1,hup⟩:=aJu hU hnd hbn;obtain ⟨u1,u2,u3,u4⟩:=hup M;have hL:=Dk.le hF;have srcp:∀ p i,ids[p]? = some i→oN 0 ids p=some i:=fun p i h=>by simp [oN,h]
 have rnp:∀ p i,ids[p]? = some i→rnI 0 ids i=some p:=fun p i h=>by
  have:=sD hnd 0 h;unfold rnI;rw [show Nat.blt i 0=false from rfl,this,iC]
 have Dr:∀ p i,ids[p]? = some i→∃ o o0,M[i]? = some (some o)∧o.live=true∧M0[p]? = some (some o0)∧o0.live=true∧(C.rn 0 ids).ι p=C.ι i∧(C.rn 0 ids).κ p=C.κ i:=fun p i hp=>by
  obtain ⟨o,h1,h2⟩:=dW (hlv i (Bl hp));obtain ⟨o0,h3,h4⟩:=hmp.fw _ _ _ (rnp p i hp) h1;exact ⟨o,o0,h1,h2,h3,by rw [bV h4];exact h2,hmp.at_ _ _ (rnp p i hp)⟩
 have sh_of:∀ (p:Nat) (o0:AO),M0[p]? = some (some o0)→∃ i o,ids[p]? = some i∧M[i]? = some (some o)∧o.live=true∧o0.live=true∧(C.rn 0 ids).ι p=C.ι i:=fun p o0 hp=>by
  obtain ⟨hl,_⟩:=Ca.1 hp;have I1:ids[p]? = some ids[p]:=Ay (by omega)
  obtain ⟨o,o1,h1,h2,h3,h4,h5,_⟩:=Dr p _ I1;rw [hp] at h3;cases h3
  exact ⟨_,o,I1,h1,h2,h4,h5⟩
 have apart:∀ (j:Nat) (o:AO) (b:Nat),j∉ids→M[j]? = some (some o)→o.live=true→C.ι j=some b→w'.heap[b]? = w.heap[b]? ∧ ¬ C1.F b∧∀ (p:Nat) (o1:AO),M1[p]? = some (some o1)→o1.live=true→C1.ι p≠some b:=fun j o b hj h1 h2 h3=>by
  have Dm:=hM.lt j o b h1 h2 h3;have Nb:∀ (p:Nat) (o0:AO),M0[p]? = some (some o0)→o0.live=true→(C.rn 0 ids).ι p≠some b:=fun p o0 hp _ he=>by
   obtain ⟨i,o2,q1,q2,q3,_,q4⟩:=sh_of p o0 hp;rw [q4] at he
   have:=hM.inj j i o o2 b h1 h2 q2 q3 h3 he;subst this;exact hj (Bl q1)
  refine ⟨hF.keep b Dm Nb,fun hf => ?_,fun p o1 hp hl he => ?_⟩
  ·rcases hF.F2 b hf with q | q | ⟨p,o0,q1,q2,q3⟩
   ·exact hM.nF j o b h1 h2 h3 q
   ·omega
   ·exact Nb p o0 q1 q2 q3
  ·rcases hF.new p o1 b hp hl he with q | ⟨p0,o0,q1,q2,q3⟩
   ·omega
   ·exact Nb p0 o0 q1 q2 q3
 have ix:∀ j,(j∈ids→∃ p,idx ids j 0=some p∧ids[p]? = some j)∧(j∉ids→idx ids j 0=none):=fun j=>by
  refine ⟨fun hj => ?_,fun hj => ?_⟩
  ·obtain ⟨p,hp,he⟩:=List.mem_iff_getElem.1 hj
   have:ids[p]? = some j:=by rw [Ay hp,he]
   exact ⟨p,by simpa using sD hnd 0 this,this⟩
  ·cases h1:idx ids j 0 with
   | none=>rfl
   | some p =>
    obtain ⟨_,h2⟩:=yC _ _ _ _ h1;exact absurd (Bl h2) hj
 have cls:∀ (j:Nat) (o':AO),(upds M L)[j]? = some (some o')→(∃ p o1,ids[p]? = some j∧M1[p]? = some (some o1)∧mpO (bkI ids base) o1=some o'∧(C.back C1 ids base).ι j=C1.ι p∧(C.back C1 ids base).κ j=C1.κ p) ∨
   (∃ o1,j=base∧j∉ids∧M1[ids.length]? = some (some o1)∧mpO (bkI ids base) o1=some o'∧(C.back C1 ids base).ι j=C1.ι ids.length∧(C.back C1 ids base).κ j=C1.κ ids.length) ∨
   (j∉ids∧j≠base∧M[j]? = some (some o')∧(C.back C1 ids base).ι j=C.ι j∧(C.back C1 ids base).κ j=C.κ j):=fun j o' hj=>by
  rw [← bK] at hj
  by_cases hm:j∈ids
  ·obtain ⟨p,Jv,Jm⟩:=(ix j).1 hm
   obtain ⟨o1,h1,h2⟩:=(u1 p j o' Jm).1 hj;exact .inl ⟨p,o1,Jm,h1,h2,by simp [Cx.back,Jv],by simp [Cx.back,Jv]⟩
  ·have hn:=(ix j).2 hm
   by_cases hjb:j=base
   ·subst hjb
    rcases hl1 with hl | hl
    ·rw [u3 hl] at hj
     have:=cZ hb o';exact absurd (bK.1 hj) this
    ·obtain ⟨o1,h1,h2⟩:=(u2 hl o').1 hj
     exact .inr (.inl ⟨o1,rfl,hm,h1,h2,by simp [Cx.back,hn],by simp [Cx.back,hn]⟩)
   ·rw [u4 j hm hjb] at hj
    exact .inr (.inr ⟨hm,hjb,bK.1 hj,by simp [Cx.back,hn,hjb],by simp [Cx.back,hn,hjb]⟩)
 have Hg:Fr C M w (C.back C1 ids base) (upds M L) w':=by
  refine ⟨hF.os,hF.tape,hF.out,hF.size,fun b Dm hn => ?_,fun i o ho => ?_,fun i o ho ty n cs hx => ?_,fun i o ho o' hx hl => ?_,fun j o b hj hl hjb => ?_,fun b hb=>hF.F1 b hb,fun b hb => ?_⟩
  ·exact hF.keep b Dm fun p o0 hp hl he=>by
    obtain ⟨i,o2,q1,q2,q3,_,q4⟩:=sh_of p o0 hp;rw [q4] at he
    exact hn i o2 q2 q3 he
  ·by_cases hm:i∈ids
   ·obtain ⟨p,Jv,Jm⟩:=(ix i).1 hm
    obtain ⟨_,o0,_,_,h3,h4,h5,h6⟩:=Dr p i Jm;obtain ⟨⟨o1,q1⟩,q2,q3⟩:=hF.ids p o0 h3;refine ⟨?_,by simp only [Cx.back,Jv];rw [q2,h5],by simp only [Cx.back,Jv];rw [q3,h6]⟩
    have hq:∃ o',mpO (bkI ids base) o1=some o':=by
     exact aFu hU p o1 q1
    obtain ⟨o',hq⟩:=hq;exact ⟨o',bK.1 ((u1 p i o' Jm).2 ⟨o1,q1,hq⟩)⟩
   ·have hne:i≠base:=fun e=>by subst e;exact cZ hb o ho
    refine ⟨⟨o,bK.1 (by rw [u4 i hm hne];exact bK.2 ho)⟩,by simp [Cx.back,(ix i).2 hm,hne],by simp [Cx.back,(ix i).2 hm,hne]⟩
  ·rcases cls i _ hx with ⟨p,o1,q1,q2,q3,_⟩ | ⟨o1,rfl,_⟩ | ⟨_,_,q3,_⟩
   ·rw [mF q3] at q2
    obtain ⟨o2,o0,h1,_,h3,_⟩:=Dr p i q1;obtain ⟨Bz,h5⟩:=hF.row p o0 h3 _ _ _ q2;obtain ⟨o4,h6,h7⟩:=hmp.bk _ _ _ (rnp p i q1) h5;rw [mF h7] at h6
    exact ⟨Bz,h6⟩
   ·exact absurd ho (cZ hb o)
   ·exact ⟨cs,q3⟩
  ·rcases cls i _ hx with ⟨p,o1,q1,q2,q3,_⟩ | ⟨o1,rfl,_⟩ | ⟨_,_,q3,_⟩
   ·obtain ⟨o2,o0,h1,h2,h3,_⟩:=Dr p i q1
    rw [ho] at h1;cases h1
    exact h2
   ·exact absurd ho (cZ hb o)
   ·rw [ho] at q3;cases q3;exact hl
  ·have fin:∀ (p:Nat) (o1:AO),M1[p]? = some (some o1)→o1.live=true→C1.ι p=some b→w.heap.size≤b∨∃ (Im:Nat) (o0:AO),M[Im]? = some (some o0)∧o0.live=true∧C.ι Im=some b:=fun p o1 h1 h2 h3=>by
    rcases hF.new p o1 b h1 h2 h3 with q | ⟨p0,o0,q1,q2,q3⟩
    ·exact .inl q
    ·obtain ⟨i,o2,r1,r2,r3,_,r4⟩:=sh_of p0 o0 q1
     rw [r4] at q3
     exact .inr ⟨i,o2,r2,r3,q3⟩
   rcases cls j _ hj with ⟨p,o1,q1,q2,q3,q4,_⟩ | ⟨o1,rfl,_,q2,q3,q4,_⟩ | ⟨_,_,q3,q4,_⟩
   ·rw [q4] at hjb
    exact fin p o1 q2 (by rw [← bV q3];exact hl) hjb
   ·rw [q4] at hjb
    exact fin _ o1 q2 (by rw [← bV q3];exact hl) hjb
   ·rw [q4] at hjb
    exact .inr ⟨j,o,q3,hl,hjb⟩
  ·rcases hF.F2 b hb with q | q | ⟨p,o0,q1,q2,q3⟩
   ·exact .inl q
   ·exact .inr (.inl q)
   ·obtain ⟨i,o2,r1,r2,r3,_,r4⟩:=sh_of p o0 q1
    rw [r4] at q3
    exact .inr (.inr ⟨i,o2,r2,r3,q3⟩)
 have Hm:=hM.le Hg;have hbk:bDm (bkI ids base) C1 (C.back C1 ids base) M1 (upds M L):=by
  have two:∀ i j,bkI ids base i=some j→(ids[i]? = some j)∨(i=ids.length∧j=base):=fun i j h=>by
   unfold bkI at h
   split at h
   ·rename_i hi;cases h;exact .inl hi
   ·split at h
    ·rename_i hq;cases h;exact .inr ⟨Nat.eq_of_beq_eq_true hq,rfl⟩
    ·cases h
  have big:∀ (o:AO),M1[ids.length]? = some (some o)→M1.length=ids.length+1:=fun o h=>by
   obtain ⟨hl,_⟩:=Ca.1 h;omega
  refine ⟨fun i j o' hij hj => ?_,fun i j o hij hi => ?_,fun i j hij => ?_,fun _ h=>h⟩
  ·rcases two i j hij with h1 | ⟨rfl,rfl⟩
   ·exact (u1 i j o' h1).1 (bK.2 hj)
   ·rcases hl1 with hl | hl
    ·have:=bK.2 hj
     rw [u3 hl] at this
     exact absurd (bK.1 this) (cZ hb o')
    ·exact (u2 hl o').1 (bK.2 hj)
  ·have hq:∃ o',mpO (bkI ids base) o=some o':=by
    exact aFu hU i o hi
   obtain ⟨o',hq⟩:=hq
   rcases two i j hij with h1 | ⟨rfl,rfl⟩
   ·exact ⟨o',bK.1 ((u1 i j o' h1).2 ⟨o,hi,hq⟩),hq⟩
   ·exact ⟨o',bK.1 ((u2 (big o hi) o').2 ⟨o,hi,hq⟩),hq⟩
  ·rcases two i j hij with h1 | ⟨rfl,rfl⟩
   ·have:=sD hnd 0 h1
    rw [iC] at this
    simp [Cx.back,this]
   ·simp [Cx.back,(ix _).2 hbn]
 refine ⟨Hg,⟨fun j ty n cs h => ?_,fun j ty cs h => ?_,fun j es cl h => ?_,fun j j' o1 o2 b q1 l1 q2 l2 e1 e2 => ?_,fun j o b h hl hb => ?_,Cp.Fs,fun j o b h hl hb => ?_⟩,vF hbk hr hy⟩
 ·rcases cls j _ h with ⟨p,o1,q1,q2,q3,q4,q5⟩ | ⟨o1,rfl,_,q2,q3,q4,q5⟩ | ⟨q1,_,q3,q4,q5⟩
  ·rw [mF q3] at q2
   rw [q4,q5];exact Cp.row _ _ _ _ q2
  ·rw [mF q3] at q2
   rw [q4,q5];exact Cp.row _ _ _ _ q2
  ·rw [q4,q5]
   rcases hM.row _ _ _ _ q3 with q | ⟨b,arr,inf,p0,p1,p2,p3,p4,p5,p6,p7,p8⟩
   ·exact .inl q
   ·exact .inr ⟨b,arr,inf,p0,by rw [(apart j _ b q1 q3 rfl p0).1];exact p1,p2,p3,p4,p5,p6,fun i hi=>(p7 i hi).mono Hm.F Hm.fz,p8⟩
 ·rcases cls j _ h with ⟨p,o1,q1,q2,q3,q4,q5⟩ | ⟨o1,rfl,_,q2,q3,q4,q5⟩ | ⟨q1,_,q3,q4,q5⟩
  ·cases o1 with
   | box Du l =>
    simp only [mpO,lM] at q3
    obtain ⟨l',Ed,e⟩:=q3;cases e;obtain ⟨b,arr,p0,p1,p2,p3,p4⟩:=Cp.box _ _ _ q2;obtain ⟨n1,n2⟩:=gV hbk (w:=w') (us:=fun j=>arr.getD j undef) p3 Ed
    exact ⟨b,arr,by rw [q4];exact p0,p1,by omega,n2,fun j hj=>p4 j (by omega)⟩
   | row=>simp [mpO] at q3
   | mp=>simp [mpO] at q3
   | pk=>simp [mpO] at q3
   | dead=>simp [mpO] at q3
  ·cases o1 with
   | box Du l =>
    simp only [mpO,lM] at q3
    obtain ⟨l',Ed,e⟩:=q3;cases e;obtain ⟨b,arr,p0,p1,p2,p3,p4⟩:=Cp.box _ _ _ q2;obtain ⟨n1,n2⟩:=gV hbk (w:=w') (us:=fun j=>arr.getD j undef) p3 Ed
    exact ⟨b,arr,by rw [q4];exact p0,p1,by omega,n2,fun j hj=>p4 j (by omega)⟩
   | row=>simp [mpO] at q3
   | mp=>simp [mpO] at q3
   | pk=>simp [mpO] at q3
   | dead=>simp [mpO] at q3
  ·obtain ⟨b,arr,p0,p1,p2,p3,p4⟩:=hM.box _ _ _ q3
   exact ⟨b,arr,by rw [q4];exact p0,by rw [(apart j _ b q1 q3 rfl p0).1];exact p1,p2,fun i hi=>(p3 i hi).mono Hm,p4⟩
 ·rcases cls j _ h with ⟨p,o1,q1,q2,q3,q4,q5⟩ | ⟨o1,rfl,_,q2,q3,q4,q5⟩ | ⟨q1,_,q3,q4,q5⟩
  ·cases o1 with
   | mp Cw Ef =>
    simp only [mpO,Option.some.injEq] at q3
    cases q3;obtain ⟨b,arr,p0,p1,p2,p3⟩:=Cp.mp _ _ _ q2;refine ⟨b,arr,by rw [q4];exact p0,p1,p2,fun j hj => ?_⟩
    obtain ⟨en,s1,s2,s3,s4⟩:=p3 j hj;exact ⟨en,s1,s2,s3,s4.mono hbk.F (fun _ _=>rfl)⟩
   | row=>simp [mpO] at q3
   | box=>simp [mpO] at q3
   | pk=>simp [mpO] at q3
   | dead=>simp [mpO] at q3
  ·cases o1 with
   | mp Cw Ef =>
    simp only [mpO,Option.some.injEq] at q3
    cases q3;obtain ⟨b,arr,p0,p1,p2,p3⟩:=Cp.mp _ _ _ q2;refine ⟨b,arr,by rw [q4];exact p0,p1,p2,fun j hj => ?_⟩
    obtain ⟨en,s1,s2,s3,s4⟩:=p3 j hj;exact ⟨en,s1,s2,s3,s4.mono hbk.F (fun _ _=>rfl)⟩
   | row=>simp [mpO] at q3
   | box=>simp [mpO] at q3
   | pk=>simp [mpO] at q3
   | dead=>simp [mpO] at q3
  ·obtain ⟨b,arr,p0,p1,p2,p3⟩:=hM.mp _ _ _ q3
   refine ⟨b,arr,by rw [q4];exact p0,by rw [(apart j _ b q1 q3 rfl p0).1];exact p1,p2,fun i hi => ?_⟩
   obtain ⟨en,s1,s2,s3,s4⟩:=p3 i hi;exact ⟨en,s1,s2,s3,s4.mono Hm.F Hm.fz⟩
 ·rcases cls j _ q1 with ⟨p,a1,r1,r2,r3,r4,_⟩ | ⟨a1,rfl,r1,r2,r3,r4,_⟩ | ⟨r1,rb,r3,r4,_⟩ <;> rcases cls j' _ q2 with ⟨p',a2,t1,t2,t3,t4,_⟩ | ⟨a2,rfl,t1,t2,t3,t4,_⟩ | ⟨t1,tb,t3,t4,_⟩
  all_goals try rfl
  all_goals (rw [r4] at e1;rw [t4] at e2)
  ·have:=Cp.inj p p' a1 a2 b r2 (by rw [← bV r3];exact l1) t2 (by rw [← bV t3];exact l2) e1 e2
   subst this;rw [r1] at t1;cases t1;rfl
  ·have:=Cp.inj p _ a1 a2 b r2 (by rw [← bV r3];exact l1) t2 (by rw [← bV t3];exact l2) e1 e2
   obtain ⟨hl,_⟩:=Ca.1 r1;omega
  ·exact absurd e1 ((apart j' o2 b t1 t3 l2 e2).2.2 p a1 r2 (by rw [← bV r3];exact l1))
  ·have:=Cp.inj _ p' a1 a2 b r2 (by rw [← bV r3];exact l1) t2 (by rw [← bV t3];exact l2) e1 e2
   obtain ⟨hl,_⟩:=Ca.1 t1;omega
  ·exact absurd e1 ((apart j' o2 b t1 t3 l2 e2).2.2 _ a1 r2 (by rw [← bV r3];exact l1))
  ·exact absurd e2 ((apart j o1 b r1 r3 l1 e1).2.2 p' a2 t2 (by rw [← bV t3];exact l2))
  ·exact absurd e2 ((apart j o1 b r1 r3 l1 e1).2.2 _ a2 t2 (by rw [← bV t3];exact l2))
  ·exact hM.inj j j' o1 o2 b r3 l1 t3 l2 e1 e2
 ·rcases cls j _ h with ⟨p,o1,q1,q2,q3,q4,q5⟩ | ⟨o1,rfl,_,q2,q3,q4,q5⟩ | ⟨q1,_,q3,q4,q5⟩
  ·rw [q4] at hb
   exact Cp.nF _ _ b q2 (by rw [← bV q3];exact hl) hb
  ·rw [q4] at hb
   exact Cp.nF _ _ b q2 (by rw [← bV q3];exact hl) hb
  ·rw [q4] at hb
   exact (apart j o b q1 q3 hl hb).2.1
 ·rcases cls j _ h with ⟨p,o1,q1,q2,q3,q4,q5⟩ | ⟨o1,rfl,_,q2,q3,q4,q5⟩ | ⟨q1,_,q3,q4,q5⟩
  ·rw [q4] at hb
   exact Cp.lt _ _ b q2 (by rw [← bV q3];exact hl) hb
  ·rw [q4] at hb
   exact Cp.lt _ _ b q2 (by rw [← bV q3];exact hl) hb
  ·rw [q4] at hb
   exact gF (hM.lt j o b q3 hl hb) hF.size

theorem aVi{f base:Nat}{ids:List Nat}{args B1:List AV}{r y:AV}{L:Upd}(hd:distinct 0 ids=true)(hb:fY M base=true)
  (hs:rnM 0 ids (ids.map (at? M))=some M0) (hlv:∀ i∈ids,eP M i=true) (ha:rnL 0 ids args=some B1) (hU:pP ids base ids M1=some L) (hy:mpA (bkI ids base) r=some y)
  (h:FMM P f B1 M0 r M1):FM P f args M y L:=by
 intro C w us hus hM n;obtain ⟨Dk,hmp,_⟩:=tC (k:=0) hM hd hs;refine (h (C.rn 0 ids) w us (aMt hmp hus ha) Dk n).mono ?_;rintro e w' ⟨u,rfl,C1,hF,Cp,hr⟩;exact ⟨u,rfl,C.back C1 ids base,bXd hd hb hs hlv hU hy hM hF Cp hr⟩
def shown(ids:List Nat)(base:Nat)(args:List AV)(bs:Upd)(M1:Mem)(r:AV):Option (List AV × Mem × AV × Upd):=match distinct 0 ids && ids.all (eP (upds [] bs)) with
 | true=>match rnM 0 ids (ids.map (at? (upds [] bs))) with
  | some M0=>match rnL 0 ids args with
   | some B1=>match pP ids base ids M1 with
    | some L=>match mpA (bkI ids base) r with
     | some y=>some (B1,M0,y,L)
     | none=>none
    | none=>none
   | none=>none
  | none=>none
 | false=>none
theorem FMM.fc{f base:Nat}{ids:List Nat}{args B1:List AV}{bs:Upd}{r y:AV}{L:Upd}(h:FMM P f B1 M0 r M1)(hs:shown ids base args bs M1 r=some (B1,M0,y,L)):FC P f args bs base y L:=fun M hb hf _=>by
 unfold shown at hs
 have hsub:aTn (upds [] bs) M:=fun id o ho=>by
  rcases sY bs [] id o ho with h5 | h5
  ·exact hb _ h5
  ·simp [cB] at h5
 split at hs
 ·rename_i hd
  rw [Ce,gB] at hd
  have hlv:∀ i∈ids,∃ o,cB (upds [] bs) i=some o∧cB M i=some o∧o.live=true:=fun i hi=>by
   obtain ⟨o,h1,h2⟩:=dW (hd.2 i hi);exact ⟨o,bK.2 h1,hsub _ _ (bK.2 h1),h2⟩
  split at hs
  ·rename_i h1
   split at hs
   ·rename_i h2
    split at hs
    ·rename_i h3
     split at hs
     ·rename_i h4
      cases hs;have he:ids.map (at? M)=ids.map (at? (upds [] bs)):=aAi fun i hi=>by
       obtain ⟨o,q1,q2,_⟩:=hlv i hi;unfold at?
       rw [q1,q2]
      refine aVi hd.1 hf (by rw [he];exact h1) (fun i hi => ?_) h2 h3 h4 h
      obtain ⟨o,_,q2,q3⟩:=hlv i hi;exact jZ (bK.1 q2) q3
     ·cases hs
    ·cases hs
   ·cases hs
  ·cases hs
 ·cases hs

theorem aRa{id ty n:Nat}{cs:List PV}(hM:aU P C M w)(ho:M[id]? = some (some (.row ty n cs))):∀ {l:List AV} {us:List Value},dL C M w l us→dL (C.close id true) (bB M id (some .dead)) w (fzL id n cs l) us
 | [],us,h=>by cases h;simp only [fzL];exact .nil
 | x::r,us,h=>by
  cases h with
  | cons _ u _ k hx hr =>
   simp only [fzL];exact .cons _ _ _ _ (aIx hM ho hx) (aRa hM ho hr)
theorem FM.close1{f id ty n:Nat}{cs:List PV}{args:List AV}{y:AV}{L:Upd}(ho:cB M id=some (.row ty n cs))(h:FM P f (fzL id n cs args) (bB M id (some .dead)) y L):FM P f args M y ((id,.dead)::L):=fun C w us hus hM k=>by
 have ho:=bK.1 ho;have fk:=dM (C:=C) (w:=w) true ho rfl;refine (h _ w us (aRa hM ho hus) (rB hM true ho rfl) k).mono ?_;rintro e w' ⟨u,rfl,C',hF,Hh,hr⟩;exact ⟨u,rfl,C',fk.trans hF,Hh,hr⟩
def aFv(bs:Upd):List Nat→List AV→Option (List AV)
 | [],args=>match kP args with
  | true=>some args
  | false=>none
 | id::r,args=>match cB (upds [] bs) id with
  | some (.row _ n cs)=>match r.all (fun j => !Nat.beq j id) with
   | true=>aFv bs r (fzL id n cs args)
   | false=>none
  | _=>none
def kills:List Nat→Upd→Upd
 | [],L=>L
 | id::r,L=>(id,.dead)::kills r L
theorem aJv{f base:Nat}{bs:Upd}{y:AV}{L:Upd}:∀ {ids:List Nat} {M:Mem} {args A1:List AV},aFv bs ids args=some A1→(∀ id∈ids,∀ o,cB (upds [] bs) id=some o→cB M id=some o)→fY M base=true→FV P f A1 base y L→FM P f args M y (kills ids L)
 | [],M,args,A1,hc,_,hf,h=>by
  unfold aFv at hc
  split at hc
  ·rename_i hn
   cases hc;obtain ⟨r,M1,h1,h2⟩:=h;exact zW (.inl ⟨hn,rfl⟩) hf h2 h1
  ·cases hc
 | id::r,M,args,A1,hc,hb,hf,h=>by
  unfold aFv at hc
  split at hc
  ·rename_i ty n cs ho
   split at hc
   ·rename_i hd
    have hoM:=hb id (gA ..) _ ho;refine FM.close1 hoM (aJv hc (fun j hj o hjo => ?_) ?_ h)
    ·have hne:j≠id:=fun e=>by
      have:=gB.1 hd j hj;subst e;simp at this
     rw [dG,if_neg (Ne.symm hne)];exact hb j (Ch _ hj) o hjo
    ·have hne:id≠base:=fun e=>by
      subst e;exact cZ hf _ (bK.1 hoM)
     unfold fY at hf ⊢
     rw [dG,if_neg hne];exact hf
   ·cases hc
  ·cases hc
theorem FV.close{f base:Nat}{ids:List Nat}{args A1:List AV}{y:AV}{L bs:Upd}(h:FV P f A1 base y L)(hc:aFv bs ids args=some A1):FC P f args bs base y (kills ids L):=fun M hb hf _=>by
 refine aJv hc (fun id _ o ho => ?_) hf h
 rcases sY bs [] id o ho with h5 | h5
 ·exact hb _ h5
 ·simp [cB] at h5

def unA:AV→AV
 | .tup l => .tup (l.map un)
 | x=>un x
theorem bXe{x:AV}{u:Value}(h:Rep C M w x u):Rep C M w (unA x) u:=by
 cases h with
 | tup cs vs h1 h2 =>
  refine .tup _ _ (by simpa using h1) (fun i hi => ?_)
  simp only [oF];exact bRd (h2 i (by simpa using hi))
 | p x u h=>exact .p _ _ h
 | any u=>exact .any u
 | kb b=>exact bRd (.kb b)
 | yld l=>exact .yld l
 | own id u h0 ha h=>exact .own id u h0 ha h
 | arr id off n u h0 ha h=>exact .arr id off n u h0 ha h
 | ptr id off u h0 ha h hp=>exact .ptr id off u h0 ha h hp
 | mp id u h0 ha h=>exact .mp id u h0 ha h
 | pa id q u h0 ha h=>exact .pa id q u h0 ha h
 | rp cs off b o us h1 h2 h3=>exact .rp cs off b o us h1 h2 h3
 | agg cs vs h0 h1 h2=>exact .agg cs vs h0 h1 h2
 | fn f cs ds us vs h1 h2 h3 h4=>exact .fn f cs ds us vs h1 h2 h3 h4
theorem wV.un{f:Nat}{args:List AV}{M M1:Mem}{r:AV}(h:wV P f args M r M1):wV P f args M (unA r) M1:=fun C w us hus hM n=>by
 refine (h C w us hus hM n).mono ?_;rintro e w' ⟨u,rfl,C1,hF,Cp,hr,hP⟩;exact ⟨u,rfl,C1,hF,Cp,bXe hr,hP⟩

def bXf(k:Nat)(g:Gh)(x:Option ((AV × Mem) × AS)):Option (AV × Mem × List Prop × List OI):=match x with
 | some ((r,M1),s)=>match gh k g ⟨[unA r],M1⟩ with
  | some ⟨[r'],M'⟩=>some (r',M',s.obs,s.o)
  | _=>none
 | none=>none
theorem wV.gh{f k:Nat}{args:List AV}{M M1 M':Mem}{r r':AV}{g:Gh}(hk:M.length≤k)(h:wV P f args M r M1)(hg:KV.gh k g ⟨[r],M1⟩=some ⟨[r'],M'⟩):wV P f args M r' M':=fun C w us hus hM n=>by
 refine (h C w us hus hM n).mono ?_;rintro e w' ⟨u,rfl,C1,hF,Cp,hr,hP⟩;have hs:Sim P (C.with []) M w ⟨[r],M1⟩ { tmps := #[u],defers:=[] } w':=⟨C1,⟨rfl,fun i hi=>by
  obtain rfl:i=0:=by simpa using hi
  exact hr⟩,Cp,hF.based [],⟨[],rfl,.nil,fun D h=>by simp at h⟩,fun p hp=>(by cases hp),hP⟩
 obtain ⟨C2,hS,Iz,Hg,_,_,Ws⟩:=eX hk hg hs;exact ⟨u,rfl,C2,Hg.unbased,Iz,hS.rep 0 (by simp),Ws⟩
end
section
/-- numbers, by runs -/
def rng:List (Nat × Nat)→List Nat
 | []=>[]
 | (a,n)::r=>List.range' a n++rng r

abbrev aB(n:Int):PV := .v (.int .i64 n)
abbrev blP(b:Bool):PV := .v (.bool b)
abbrev aF(l:List Int):PV := .sl l.length (l.map aB)
abbrev cC:PV := .v (.slice none 0 0)

def EO:Env:=⟨fun _ _ _ _=>none,ok⟩
theorem aJs:nG Tp EO:=⟨fun _ _ _ _ _ _ h=>(by cases h),cDk⟩

def cd(f:Func):Code:=f.body.getD .skip
def sub:Code→List Nat→Code
 | c,[]=>c
 | .seq a b,i::r=>match i with | 0=>sub a r | _=>sub b r
 | .cond _ a b,i::r=>match i with | 0=>sub a r | _=>sub b r
 | .block _ b,_::r=>sub b r
 | .loop b,_::r=>sub b r
 | .scope b,_::r=>sub b r
 | .rangeFunc _ _ a b,i::r=>match i with | 0=>sub a r | _=>sub b r
 | _,_::_ => .skip
def look:List (Nat × AV)→Nat→AV
 | [],_ => .any
 | (i,x)::r,k=>match Nat.beq i k with
  | true=>x
  | false=>look r k
def frm(l:List (Nat × AV)):Nat→Nat→List AV
 | 0,_=>[]
 | n+1,k=>look l k::frm l n (k+1)
abbrev fr(n:Nat)(l:List (Nat × AV)):List AV:=frm l n 0

abbrev asg(o:List OI):AS:=⟨false,o,[]⟩
abbrev out(l:List Prop):AS:=⟨false,[],l⟩
theorem gn:bD (out []):=fun _ h=>by simp at h
theorem gc{p:Prop}{l:List Prop}(hp:p)(h:bD (out l)):bD (out (p::l)):=fun q hq=>by
 rcases fW.1 hq with rfl | hq
 ·exact hp
 ·exact h q hq

def cDh(base:Nat)(x:Option ((AV × Mem) × AS)):Option (AV × Upd × List Prop × List OI):=match x with
 | some ((r,M1),s)=>match bDf M1 base (unA r) with
  | some (y,L)=>some (y,L,s.obs,s.o)
  | none=>none
 | none=>none
theorem FV.fin{f base:Nat}{fn:Func}{args:List AV}{y:AV}{L:Upd}{o:List OI}{l:List Prop}(hf:Tryz.prog.funcs[f]? = some fn)(hb:fn.body.isSome=true)
  (h:cDh base (aTq Tp tT EO 0 fn (cd fn) args [] (asg o))=some (y,L,l,[])) (g:bD (out l)):FV Tp f args base y L:=by
 unfold cDh at h
 split at h
 ·rename_i r M1 s hr
  split at h
  ·rename_i y' L' ho
   simp only [Option.some.injEq,Prod.mk.injEq] at h
   obtain ⟨rfl,rfl,rfl,hs⟩:=h;refine ⟨unA r,M1,(wV.un (aBs aJt aJs mixed hf ?_ hr (fun p hp=>g p hp))).fmm,ho⟩
   unfold cd;cases h1:fn.body with
   | none=>rw [h1] at hb;cases hb
   | some c=>rfl
  ·cases h
 ·cases h
def aDb(k:Nat)(g:Gh)(x:Option ((Ex × St) × AS)):Option (Ex × St × List Prop × List OI):=match x with
 | some ((e,st1),s)=>match gh k g st1 with
  | some Am=>some (e,Am,s.obs,s.o)
  | none=>none
 | none=>none
theorem aC.fin{k:Nat}{c:Code}{st Am:St}{e:Ex}{g:Gh}{o:List OI}{l:List Prop}(h:aDb k g (aCs Tp tT EO k 0 c st (asg o))=some (e,Am,l,[]))(gd:bD (out l)):aC Tp k c st e Am:=by
 unfold aDb at h
 split at h
 ·rename_i e1 st1 s hr
  split at h
  ·rename_i st2 hg
   simp only [Option.some.injEq,Prod.mk.injEq] at h
   obtain ⟨rfl,rfl,rfl,hs⟩:=h;exact (aEg aJt aJs mixed c hr (fun p hp=>gd p hp)).post hg
  ·cases h
 ·cases h
theorem wV.fin{f k:Nat}{fn:Func}{args:List AV}{M M':Mem}{r:AV}{g:Gh}{o:List OI}{l:List Prop}(hk:M.length=k)(hf:Tryz.prog.funcs[f]? = some fn)(hb:fn.body.isSome=true)
  (h:bXf k g (aTq Tp tT EO 0 fn (cd fn) args M (asg o))=some (r,M',l,[])) (gd:bD (out l)):wV Tp f args M r M':=by
 unfold bXf at h
 split at h
 ·rename_i r1 M1 s hr
  split at h
  ·rename_i r2 M2 hg
   simp only [Option.some.injEq,Prod.mk.injEq] at h
   obtain ⟨rfl,rfl,rfl,hs⟩:=h;refine wV.gh (Nat.le_of_eq hk) (wV.un (aBs aJt aJs mixed hf ?_ hr (fun p hp=>gd p hp))) hg
   unfold cd;cases h1:fn.body with
   | none=>rw [h1] at hb;cases hb
   | some c=>rfl
  ·cases h
 ·cases h
theorem FMM.fin{f k:Nat}{fn:Func}{args:List AV}{M M':Mem}{r:AV}{g:Gh}{o:List OI}{l:List Prop}(hk:M.length=k)(hf:Tryz.prog.funcs[f]? = some fn)(hb:fn.body.isSome=true)
  (h:bXf k g (aTq Tp tT EO 0 fn (cd fn) args M (asg o))=some (r,M',l,[])) (gd:bD (out l)):FMM Tp f args M r M':=(wV.fin hk hf hb h gd).fmm
theorem FV.frz{P:Program}{f base:Nat}{args:List AV}{y:AV}(h:FMM P f args [] y [])(ho:bDf [] base y=some (y,[])):FV P f args base y []:=⟨y,[],h,ho⟩
theorem aC.cast{P:Program}{k:Nat}{c:Code}{st st1 Am:St}{e:Ex}(h:aC P k c st e st1)(he:st1=Am):aC P k c st e Am:=he ▸ h
def bQ(st:St)(l:List (Nat × AV)):St:=⟨l.foldl (fun t p=>t.set p.1 p.2) st.t,st.m⟩

theorem bX{x y:Int}(h:x=y):(x == y)=true:=by simpa using h
theorem aS{x y:Int}(h:x≠y):(x == y)=false:=by simpa using h
theorem fH{x y:Int}(h:x≠y):(x != y)=true:=by simpa using h
theorem bG{x y:Int}(h:x=y):(x != y)=false:=by simpa using h
theorem bI{x y:Int}(h:x<y):decide (x<y)=true:=by simpa using h
theorem aK{x y:Int}(h:y≤x):decide (x<y)=false:=by simpa using h
theorem oQ{x y:Int}(h:x≤y):decide (x≤y)=true:=by simpa using h
theorem kZ{x y:Int}(h:y<x):decide (x≤y)=false:=by simpa using h
theorem bN{b:Bool}(h:b=false):(!b)=true:=by simpa using h
theorem aR{b:Bool}(h:b=true):(!b)=false:=by simpa using h

theorem sA{α:Type}{g:α→PV}{l:List α}{i:Nat}{x:α}(h:l[i]? = some x):(l.map g)[i*1]? = some (g x):=by rw [Nat.mul_one,fV,h];rfl
theorem sC{α:Type}{g:α→PV}{l:List α}{i:Int}{x:α}(h0:0≤i)(h:l[i.toNat]? = some x):0≤i∧i<(l.length:Int)∧i.toNat*1<(l.map g).length:=by
 obtain ⟨h1,_⟩:=Ca.1 h;refine ⟨h0,by omega,by simpa using h1⟩
theorem cG{α:Type}{l:List α}{i:Int}{x:α}(h0:0≤i)(h:l[i.toNat]? = some x):0≤i∧i<(l.length:Int):=by
 obtain ⟨h1,_⟩:=Ca.1 h;exact ⟨h0,by omega⟩
theorem fk{P:Program}{f:Nat}{args:List AV}{y:AV}{L:Upd}(base:Nat)(h:FV P f args base y L)(hn:kP args=true):FC P f args [] base y L:=h.fc hn
theorem fv{P:Program}{f base:Nat}{args A1:List AV}{y:AV}{L:Upd}{bs:List (Nat × AO)}(h:FV P f A1 base y L)(hv:pC (upds [] bs) args=some A1:=by kernel_rfl)(h1:bDh y=true:=by kernel_rfl)(h2:bDi L=true:=by kernel_rfl):FC P f args bs base y L:=h.view hv h1 h2
theorem ixn{α:Type}{l:List α}{i:Nat}{x:α}(g:α→PV)(h:l[i]? = some x):0≤(i:Int)∧(i:Int)<(l.length:Int)∧(i:Int).toNat*1<(l.map g).length:=sC (Bp _) (by rwa [aMq])
theorem atm{α:Type}{l:List α}{i:Nat}{x:α}(g:α→PV)(h:l[i]? = some x):(l.map g)[i*1]? = some (g x):=sA h
abbrev bF:OI := .b false
abbrev bT:OI := .b true
abbrev pI (n:Int):AV:=.p (aB n)
abbrev pB (b:Bool):AV:=.p (blP b)
abbrev fS (l:Lqq):PV:=.sl l.length (l.flatten.map aB)
theorem Aq {p:Prop}{l:List Prop}(hp:p)(h:bD (out l)):bD (out (p::p::l)):=gc hp (gc hp (h))
theorem Ak {p:Prop}{l:List Prop}(hp:p)(h:bD (out l)):bD (out (p::p::p::l)):=gc hp (gc hp (gc hp (h)))
theorem Au {p:Prop}{l:List Prop}(hp:p)(h:bD (out l)):bD (out (p::p::p::p::l)):=gc hp (gc hp (gc hp (gc hp (h))))
theorem B0 {p:Prop}{l:List Prop}(hp:p)(h:bD (out l)):bD (out (p::p::p::p::p::l)):=gc hp (gc hp (gc hp (gc hp (gc hp (h)))))
theorem Gf {p:Prop}{l:List Prop}(hp:p)(h:bD (out l)):bD (out (p::p::p::p::p::p::l)):=gc hp (gc hp (gc hp (gc hp (gc hp (gc hp (h))))))
theorem Ja {p:Prop}{l:List Prop}(hp:p)(h:bD (out l)):bD (out (p::p::p::p::p::p::p::l)):=gc hp (gc hp (gc hp (gc hp (gc hp (gc hp (gc hp (h)))))))
theorem E1 {p:Prop}{l:List Prop}(hp:p)(h:bD (out l)):bD (out (p::p::p::p::p::p::p::p::l)):=gc hp (gc hp (gc hp (gc hp (gc hp (gc hp (gc hp (gc hp (h))))))))
theorem gt (p:Prop){l:List Prop}(hp:p)(h:bD (out l)):bD (out (p::l)):=gc hp h
theorem gr (v:PV){l:List Prop}(h:bD (out l)):bD (out ((some v=some v)::l)):=gc rfl h
theorem gf{l:List Prop}(h:bD (out l)):bD (out ((false=false)::l)):=gc rfl h
def FC.o{P:Program}{f:Nat}{args:List AV}{bs:List (Nat × AO)}{base:Nat}{y:AV}{L:Upd}(_:FC P f args bs base y L):OI:=.c y L
def aD.k{P:Program}{k:Nat}{c:Code}{st Am:St}{e:Ex}(_:aD P k c st e Am)(n:Nat)(g:Gh):OI:=.k n g e Am
def aC.k{P:Program}{k:Nat}{c:Code}{st Am:St}{e:Ex}(_:aC P k c st e Am)(n:Nat)(g:Gh):OI:=.k n g e Am
def qI(ids:List Nat)(base:Nat)(x:AV):AV:=(mpA (bkI ids base) x).getD .any
def qM(f:Nat→Option Nat):List Nat→Mem→Upd
 | i::r,some o::M=>match mpO f o with
  | some q=>(i,q)::qM f r M
  | none=>[]
 | i::r,none::M=>qM f r M
 | _,_=>[]
def qS(ids:List Nat)(f:Nat→Option Nat)(args:List AV)(M:Mem):Upd:=blocks (upds [] (qM f ids M)) (clos (upds [] (qM f ids M)) (xB args))
theorem mq(ids:List Nat)(base:Nat){P:Program}{f:Nat}{B1:List AV}{M0 M1:Mem}{r:AV}(h:FMM P f B1 M0 r M1)(hs:shown ids base (B1.map (qI ids base)) (qS ids (bkI ids base) (B1.map (qI ids base)) M0) M1 r=some (B1,M0,qI ids base r,(pP ids base ids M1).getD []):=by kernel_rfl):FC P f (B1.map (qI ids base)) (qS ids (bkI ids base) (B1.map (qI ids base)) M0) base (qI ids base r) ((pP ids base ids M1).getD []):=FMM.fc h hs
theorem FV.fi{f base:Nat}{fn:Func}{args:List AV}{y:AV}{L:Upd}{l:List Prop}(hf:Tryz.prog.funcs[f]? = some fn)(o:List OI)(g:bD (out l))(h:cDh base (aTq Tryz.prog tT EO 0 fn (cd fn) args [] (asg o))=some (y,L,l,[]):=by kernel_rfl)(hb:fn.body.isSome=true:=by kernel_rfl):FV Tryz.prog f args base y L:=FV.fin hf hb h g
theorem aC.fi{k:Nat}{c:Code}{st Am:St}{e:Ex}(g:Gh)(o:List OI){l:List Prop}(gd:bD (out l))(h:aDb k g (aCs Tryz.prog tT EO k 0 c st (asg o))=some (e,Am,l,[]):=by kernel_rfl):aC Tryz.prog k c st e Am:=aC.fin h gd
theorem FMM.fi(k:Nat)(g:Gh){f:Nat}{fn:Func}{args:List AV}{M M':Mem}{r:AV}{l:List Prop}(hf:Tryz.prog.funcs[f]? = some fn)(o:List OI)(gd:bD (out l))(h:bXf k g (aTq Tryz.prog tT EO 0 fn (cd fn) args M (asg o))=some (r,M',l,[]):=by kernel_rfl)(hb:fn.body.isSome=true:=by kernel_rfl)(hk:M.length=k:=by kernel_rfl):FMM Tryz.prog f args M r M':=FMM.fin hk hf hb h gd
theorem g0{a b:Int}(h:a<b):bD (out [(decide (a<b))=true]):=gc (bI h) gn
def Rh:List Nat→List Nat
 | a::n::r=>List.range' a n++Rh r
 | _=>[]
abbrev gE:Gh:=⟨[],[],[],[]⟩
abbrev gZ(l:List Nat):Gh:=⟨Rh l,[],[],[]⟩
abbrev gI(l i:List Nat):Gh:=⟨Rh l,i,[],[]⟩
abbrev gN(l i:List Nat)(n:List (Nat × Nat)):Gh:=⟨Rh l,i,[],n⟩
abbrev rF(n:Nat):List OI:=List.replicate n (.b false)
abbrev rT(n:Nat):List OI:=List.replicate n (.b true)
abbrev pS(c:Code)(n:Nat)(l:List Nat):Code:=sub c (List.replicate n 1++l)
end
section
section
variable {P:Program} {k:Nat} {b:Code} {α:Type}
theorem aD.find(S:Nat→St)(R1:Nat→α→St)(R2:St)(e1 e2:Ex)(h1:e1 ≠ .normal)(h2:e2 ≠ .normal)(p:α→Bool)(l:List α)
  (hs:∀ (i:Nat) (x:α),l[i]? = some x→p x=false→aC P k b (S i) .normal (S (i+1)))
  (hq:∀ (i:Nat) (x:α),l[i]? = some x→p x=true→aC P k b (S i) e1 (R1 i x))
  (hx:aC P k b (S l.length) e2 R2) :
  (∃ i x,l[i]? = some x∧l.findIdx? p=some i∧p x=true∧aD P k b (S 0) e1 (R1 i x))∨(l.findIdx? p=none∧l.any p=false∧aD P k b (S 0) e2 R2):=by
 have key:∀ (r:List α) (i:Nat),l.drop i=r→i≤l.length→(∃ j x,l[i+j]? = some x∧r.findIdx? p=some j∧p x=true∧aD P k b (S i) e1 (R1 (i+j) x))∨(r.findIdx? p=none∧r.any p=false∧aD P k b (S i) e2 R2):=by
  intro r
  induction r with
  | nil =>
   intro i hd hi;have:i=l.length:=by have:=congrArg List.length hd;simp at this;omega
   subst this;exact .inr ⟨rfl,rfl,.exit hx h2⟩
  | cons x r ih =>
   intro i hd hi;have hl:l[i]? = some x:=by
    have:=congrArg (·[0]?) hd
    simpa using this
   have hlt:i<l.length:=(Ca.1 hl).1;cases hp:p x with
   | true=>exact .inl ⟨0,x,by simpa using hl,by simp [List.findIdx?_cons,hp],hp,.exit (hq i x hl hp) h1⟩
   | false =>
    have Oq:l.drop (i+1)=r:=by
     have:=congrArg List.tail hd;simpa [List.tail_drop] using this
    rcases ih (i+1) Oq (by omega) with ⟨j,y,q1,q2,q3,q4⟩ | ⟨q1,q2,q3⟩
    ·refine .inl ⟨j+1,y,by rw [← q1];congr 1;omega,by simp [List.findIdx?_cons,hp,q2],q3,?_⟩
     rw [show i+(j+1)=i+1+j by omega]
     exact .step (hs i x hl hp) q4
    ·exact .inr ⟨by simp [List.findIdx?_cons,hp,q1],by simp [hp,q2],.step (hs i x hl hp) q3⟩
 rcases key l 0 (by simp) (Nat.zero_le _) with ⟨j,x,q1,q2,q3,q4⟩ | q
 ·exact .inl ⟨j,x,by simpa using q1,q2,q3,by simpa using q4⟩
 ·exact .inr q
end
theorem aD.times{P:Program}{k:Nat}{b:Code}{β:Type}{e:Ex}(S:Nat→β→St)(R:β→St)(f:β→Nat→β)(Inv:Nat→β→Prop)(he:e ≠ .normal)(n:Nat){a0:β}(h0:Inv 0 a0)
  (hs:∀ (i:Nat) (acc:β),i<n→Inv i acc→Inv (i+1) (f acc i)∧aC P k b (S i acc) .normal (S (i+1) (f acc i)))
  (hx:∀ acc,Inv n acc→aC P k b (S n acc) e (R acc)):aD P k b (S 0 a0) e (R ((List.range n).foldl f a0)):=by
 refine aD.range S R f Inv he (List.range n) h0 (fun i x acc hl hI => ?_) (fun acc hI => ?_)
 ·obtain ⟨h1,rfl⟩:=Ca.1 hl
  rw [List.getElem_range];exact hs i acc (by simpa using h1) hI
 ·rw [aFs] at hI ⊢
  exact hx acc hI
def bJ{α:Type}(p:α→Bool)(l:List α):Int:=match l.findIdx? p with
 | some i=>(i:Int)
 | none => -1
theorem eF{α:Type}{p:α→Bool}{l:List α}{i:Nat}(h:l.findIdx? p=some i):bJ p l=(i:Int):=by unfold bJ;rw [h]
theorem gC{α:Type}{p:α→Bool}{l:List α}(h:l.findIdx? p=none):bJ p l = -1:=by unfold bJ;rw [h]
theorem mP{α:Type}(p:α→Bool)(l:List α):decide (bJ p l ≥ 0)=l.any p:=by
 unfold bJ;cases h:l.findIdx? p with
 | none =>
  have:l.any p=false:=by simpa using h
  simp [this]
 | some i =>
  have:l.any p=true:=by
   have h2:(l.findIdx? p).isSome=true:=by rw [h];rfl
   rwa [List.findIdx?_isSome] at h2
  simp [this]
def uni(k:Nat)(L:Lqq):Prop:=∀ x∈L,x.length=k
theorem aFt{k:Nat}{x:List Int}{L:Lqq}(h:uni k (x::L)):uni k L:=fun y hy=>h y (Ch _ hy)
theorem aMs{k:Nat}:∀ {L:Lqq} (i:Nat),uni k L→(L.flatten).drop (i*k)=(L.drop i).flatten
 | [],i,_=>by simp
 | x::L,0,_=>by simp
 | x::L,i+1,h=>by
  have hx:=h x (by simp)
  rw [tX,List.drop_succ_cons,← aMs i (aFt h),List.drop_append];rw [List.drop_eq_nil_of_le (by rw [hx,aIf];omega),List.nil_append]
  congr 1
  rw [hx,aIf];omega
theorem bAy{k:Nat}:∀ {L:Lqq} (i:Nat),uni k L→(L.flatten).take (i*k)=(L.take i).flatten
 | [],i,_=>by simp
 | x::L,0,_=>by simp
 | x::L,i+1,h=>by
  have hx:=h x (by simp)
  rw [tX,List.take_succ_cons,tX,← bAy i (aFt h),List.take_append];rw [List.take_of_length_le (by rw [hx,aIf];omega)]
  congr 2
  rw [hx,aIf];omega
theorem pO{k:Nat}:∀ {L:Lqq},uni k L→(L.flatten).length=L.length*k
 | [],_=>by simp
 | x::L,h=>by rw [tX,iJ,pO (aFt h),h x (by simp),oE,aIf];omega
theorem cCr{k i:Nat}{L:Lqq}{x:List Int}(h:uni k L)(hx:L[i]? = some x):((L.flatten).drop (i*k)).take k=x:=by
 have hl:x.length=k:=h x (Bl hx);obtain ⟨hi,he⟩:=Ca.1 hx;rw [aMs i h,aMo hi,tX,he,List.take_append_of_le_length (by omega),List.take_of_length_le (by omega)]
theorem nH{k i:Nat}{L:Lqq}{x:List Int}(h:uni k L)(hx:L[i]? = some x):i*k+k≤(L.flatten.map aB).length:=by
 obtain ⟨hi,_⟩:=Ca.1 hx;rw [Co,pO h];have:(i+1)*k≤L.length*k:=Nat.mul_le_mul_right _ hi;rw [aIf] at this;exact this
theorem mH{k i:Nat}{L:Lqq}{x:List Int}(h:uni k L)(hx:L[i]? = some x):some (PV.agg (((L.flatten.map aB).drop (i*k)).take k))=some (.agg (x.map aB)):=by
 rw [← List.map_drop,← List.map_take,cCr h hx]
theorem bE{k i f:Nat}{L:Lqq}{x:List Int}{y:Int}(h:uni k L)(hx:L[i]? = some x)(hy:x[f]? = some y):(L.flatten.map aB)[i*k+f]? = some (aB y):=by
 have hl:x.length=k:=h x (Bl hx);have hf:f<k:=by rw [← hl];exact (Ca.1 hy).1
 have:=congrArg (·[f]?) (cCr h hx)
 simp only [List.getElem?_take,hf,if_true,List.getElem?_drop] at this
 rw [fV,this,hy];rfl
theorem zA{k i:Nat}{L:Lqq}{x:List Int}(h:uni k L)(hi:i<L.length)(hx:x.length=k):((L.flatten.map aB).take (i*k)++x.map aB++(L.flatten.map aB).drop (i*k+k))=((L.set i x).flatten.map aB):=by
 have e:i*k+k=(i+1)*k:=by rw [aIf]
 rw [← List.map_take,← List.map_drop,← iA,← iA,bAy i h,e,aMs (i+1) h];rw [List.set_eq_take_append_cons_drop,if_pos hi,aQx,tX,List.append_assoc]
theorem bAz{k i:Nat}{L:Lqq}{x:List Int}(h:uni k L)(hx:x.length=k):uni k (L.set i x):=fun y hy=>by
 rcases List.mem_or_eq_of_mem_set hy with h1 | rfl
 ·exact h y h1
 ·exact hx
theorem len2{x:List Int}(h:x.length=2):∃ a b,x=[a,b]:=by
 match x,h with
 | [a,b],_=>exact ⟨a,b,rfl⟩
theorem gJ{k:Nat}{L:Lqq}{i:Int}{x:List Int}(hk:0<k)(hu:uni k L)(h0:0≤i)(h:L[i.toNat]? = some x):0≤i∧i<(L.length:Int)∧i.toNat*k<(L.flatten.map aB).length:=by
 have h1:=nH hu h;obtain ⟨h2,_⟩:=Ca.1 h;exact ⟨h0,by omega,by omega⟩
theorem aI{n:Nat}(h:n≤1000000):inR ((n:Nat):Int):=by unfold inR;omega
theorem aM{α:Type}{l:List α}{i:Nat}{x:α}(h:l[i]? = some x):i<l.length:=(Ca.1 h).1
abbrev small(n:Nat):Prop:=n<1000000
theorem gfl{k i:Nat}{L:Lqq}{x:List Int}{l:List Prop}(hu:uni k L)(h:L[i]? = some x)(g:bD (out l))(hk:0<k:=by decide):bD (out ((some (PV.agg (((L.flatten.map aB).drop (i*k)).take k))=some (.agg (x.map aB)))::(i*k+k≤(L.flatten.map aB).length)::(0≤(i:Int)∧(i:Int)<(L.length:Int)∧(i:Int).toNat*k<(L.flatten.map aB).length)::l)):=gc (mH hu h) (gc (nH hu h) (gc (gJ hk hu (Bp _) (by rwa [aMq])) g))
theorem gfz{k:Nat}{z:Int}{L:Lqq}{x:List Int}{l:List Prop}(hu:uni k L)(h0:0≤z)(h:L[z.toNat]? = some x)(g:bD (out l))(hk:0<k:=by decide):bD (out ((some (PV.agg (((L.flatten.map aB).drop (z.toNat*k)).take k))=some (.agg (x.map aB)))::(z.toNat*k+k≤(L.flatten.map aB).length)::(0≤z∧z<(L.length:Int)∧z.toNat*k<(L.flatten.map aB).length)::l)):=gc (mH hu h) (gc (nH hu h) (gc (gJ hk hu h0 h) g))
end
end KV
end Go.Proofs
section
namespace Go.Proofs
open Go.ChangeShapes Go.WideShapes Go.ChangeAt Go.RowKit
namespace KV
open Tryz
variable {P:Program} {W W':World}

def CxW(W:World):Cx:={ ι:=fun _=>none,κ:=fun _=>0,F:=fun b=>b<W.heap.size }
theorem cOh(W:World):aU P (CxW W) [] W:=⟨fun i ty n cs h=>by simp at h,fun i ty cs h=>by simp at h,fun i es cl h=>by simp at h,fun i i' o o' b h=>by simp at h,fun i o b h=>by simp at h,fun b h=>h,fun i o b h=>by simp at h⟩

theorem FV.law{f:Nat}{args:List AV}{us:List Value}(h:∀ base:Nat,FV P f args base (.p (blP true)) [])(hn:kP args=true)(hus:dL (CxW W) [] W args us):Calls P f us.toArray W fun e W'=>e = .returned (.bool true)∧Below W.heap.size W W':=by
 have hc:=(h 0).fc (bs:=[]) hn [] (fun p hp=>by simp at hp) rfl
 refine (callsIn_wide (n:=0)).1 ((hc (fun j _=>by rw [iC];cases j <;> rfl) (CxW W) W us hus (cOh W) 0).mono ?_)
 rintro e w' ⟨u,rfl,C',hF,hM,hr⟩;cases hr with
 | p _ _ h =>
  cases h;exact ⟨rfl,hF.os,hF.tape,hF.out,hF.size,fun b hb=>hF.keep b hb fun id o ho=>by simp at ho⟩

section
variable {H:Type} {enc:TypeId × Value→H}
theorem wK(hl:laidOutB P=true)(hb:Below W.heap.size W W'):∀ {ts:List TypeId} {vs:List Value} {ds:List (DataW H)} {ps:List MemPlace},(ts.all fun t=>P.readableRec t && decide (t<P.types.size))=true→DataW.TrodAll enc P W 0 (fun _=>true) true ts vs ds ps→(∀ x∈ps,x.block<W.heap.size) →
  DataW.TrodAll enc P W' 0 (fun b=>decide (b<W.heap.size)) true ts vs ds ps
 | [],[],[],_,_,h,_=>h
 | t::ts,v::vs,d::ds,ps,hr,⟨p,q,h1,h2,e⟩,hlt=>by
  rw [List.all_cons,Ce,Ce,decide_eq_true_eq] at hr
  subst e;exact ⟨p,q,Below.trod hl hr.1.1 hr.1.2 h1 hb (fun x hx=>hlt x (pN _ hx)),wK hl hb hr.2 h2 (fun x hx=>hlt x (aCy _ hx)),rfl⟩
 | [],_::_,_,_,_,h,_=>h.elim
 | _::_,[],_,_,_,h,_=>h.elim
 | [],[],_::_,_,_,h,_=>h.elim
 | _::_,_::_,[],_,_,h,_=>h.elim

theorem aIo{a:Addr}{v:Value}(h:W.cell? (a.add 0)=some v):a=⟨a.block,a.off,none⟩:=by
 obtain ⟨b,o,s⟩:=a;cases s with
 | none=>rfl
 | some x =>
  unfold World.cell? at h
  simp only [Addr.add,if_true] at h
  split at h <;> simp at h

theorem bDc{t e:TypeId}{k:IntKind}{v:Value}{d:DataW H}{ps:List MemPlace}{base:Nat}(ht:P.underlying t=some (.slice e))(he:P.underlying e=some (.int k))(hc:P.cellsOf e=1)(hok:Value.okWide P W .any base t v)
  (h:DataW.Trod enc P W 0 (fun _=>true) true t v d ps):∃ l:List Int,cM (CxW W).F W (.sl l.length (l.map fun n => .v (.int k n))) v∧(∀ n∈l,(Lit.int k n).wf=true)∧l.length≤maxLen:=by
 obtain ⟨a0,len,cap,rfl⟩:=okWide_slice ht hok;obtain ⟨fuel,hf⟩:=h
 rcases open_ints ht he hc hf with ⟨hcs,hx⟩ | ⟨a,V7,Gz,zs,hcs,_,hl,hm,hz,hx,hcell,hwz⟩
 ·simp [Value.cells] at hcs
  obtain ⟨rfl,rfl,rfl⟩:=hcs;exact ⟨[],.sl 0 [] none 0 (fun _=>undef) (dF _) (Nat.zero_le _) (fun i h=>by simp at h) (fun i h=>by simp at h) (fun i h=>by simp at h),fun n h=>by simp at h,Nat.zero_le _⟩
 ·simp [Value.cells] at hcs
  obtain ⟨rfl,rfl,rfl⟩:=hcs;simp only [if_true] at hz
  have hlen:(zs.take len).length=len:=by rw [oD];omega
  refine ⟨zs.take len,?_,fun n hn=>hwz n (List.mem_of_mem_take hn),by rw [hlen];omega⟩
  rw [hlen];refine .sl len _ (some a) cap (fun i => .int k (zs.getD i 0)) hl hm (fun i hi => ?_) (fun i hi => ?_) (fun i hi=>rfl)
  ·have Ct:i<len:=by rw [Co,hlen] at hi;exact hi
   have q1:=aIo (hcell 0 (by omega))
   have q2:=hcell i (by omega)
   rw [q1,Addr.add_lit] at q2
   exact ⟨a.block,a.off,by rw [← q1],World.block_lt_of_cell? W ⟨a.block,a.off+i,none⟩ q2,q2⟩
  ·have Ct:i<len:=by rw [Co,hlen] at hi;exact hi
   simp only [oF,List.getElem_take];have:zs.getD i 0=zs[i]'(by omega):=by rw [B5,Ay (by omega)];rfl
   rw [this];exact .v _
end
end KV
end Go.Proofs
end
section
namespace Go.Proofs
open Go.ChangeShapes Go.WideShapes Go.ChangeAt Go.RowKit Go.Deep
namespace KV
open Tryz
section
variable {P:Program} {W W':World} {H:Type} {enc:TypeId × Value→H}
theorem bWi{n:Nat}(hn:n=0):cM (CxW W).F W (.sl n []) (.slice none 0 0):=by
 subst hn;exact .sl 0 [] none 0 (fun _=>undef) (dF _) (Nat.zero_le _) (fun i h=>by simp at h) (fun i h=>by simp at h) (fun i h=>by simp at h)
theorem aLo{n:Int}(h:(Lit.int .i64 n).wf=true):inR n:=by
 have e1:IntKind.i64.min = -9223372036854775808:=rfl;have e2:IntKind.i64.max=9223372036854775807:=rfl;have h':(decide (IntKind.i64.min≤n) && decide (n≤IntKind.i64.max))=true:=h;rw [Ce,decide_eq_true_eq,decide_eq_true_eq,e1,e2] at h'
 unfold inR;omega
def aIn(P:Program)(fs:Array Field):Prop:=∀ (j:Nat) (f:Field),fs[j]? = some f→f.offset=j∧P.cellsOf f.type=1∧P.underlying f.type=some (.int .i64)
theorem aLp{e:TypeId}{fs:Array Field}{fuel:Nat}{cs:List Value}{x:DataW H × List MemPlace}(he:P.underlying e=some (.struct fs))(ce:P.cellsOf e=fs.size)(hF:aIn P fs)
  (h:DataW.trod enc P W 0 (fun _=>true) true fuel e cs=some x):∃ L:List Int,L.length=fs.size∧cs=L.map (Value.int .i64):=by
 obtain ⟨xs,n,_,_,hl,hxl,hf⟩:=DataW.trod_struct he h;rw [ce] at hl
 have each:∀ j,j<fs.size→∃ z:Int,cs[j]? = some (.int .i64 z):=fun j hj=>by
  obtain ⟨f,hfj⟩:∃ f,fs[j]? = some f:=⟨fs[j],rY hj⟩;obtain ⟨o,c,u⟩:=hF j f hfj;have g:=hf j f hfj;have hxj:j<xs.length:=by omega
  rw [o,c,Ay hxj] at g
  obtain ⟨z,e,_⟩:=DataW.trod_int u g;refine ⟨z,?_⟩;have:(cs.drop j)[0]? = some (.int .i64 z):=by
   have e0:=congrArg (fun l:List Value=>l[0]?) e
   simp only [List.getElem?_cons_zero] at e0
   rw [bWy (by omega)] at e0
   exact e0
  simpa using this
 obtain ⟨z,hz⟩:=choose_lt each;refine ⟨(List.range fs.size).map z,by simp,?_⟩
 apply List.ext_getElem?;intro j
 by_cases hj:j<fs.size
 ·rw [hz j hj];simp [hj]
 ·simp [hj];omega
theorem aEa{t e:TypeId}{fs:Array Field}{fuel:Nat}{cs:List Value}{x:DataW H × List MemPlace}(ht:P.underlying t=some (.slice e))(he:P.underlying e=some (.struct fs))(ce:P.cellsOf e=fs.size)(hk:0<fs.size)(hF:aIn P fs)
  (h:DataW.trod enc P W 0 (fun _=>true) true fuel t cs=some x):∃ (l:Lqq) (u:Value),cs=[u]∧uni fs.size l∧cM (CxW W).F W (.sl l.length (l.flatten.map aB)) u∧u.oneCell'=true:=by
 rcases open_slice ht h with ⟨hcs,_⟩ | ⟨a,len,cap,m,n,D,Pl,hcs,hb,hl,hm,hmm,hx,hr⟩
 ·exact ⟨[],_,hcs,fun x hx=>by simp at hx,bWi rfl,rfl⟩
 ·simp only [if_true] at hmm
  subst hmm;have each:∀ i,i<m→∃ L:List Int,L.length=fs.size∧∀ j,j<fs.size→W.cell? (a.add (i*fs.size+j))=some (.int .i64 (L.getD j 0)):=fun i hi=>by
   obtain ⟨Bz,h1,h2⟩:=hr i hi;rw [ce] at h1
   obtain ⟨_,hlen,hcell⟩:=World.cells?_some h1;obtain ⟨L,q1,q2⟩:=aLp he ce hF h2;refine ⟨L,q1,fun j hj => ?_⟩
   have:=hcell j hj;rw [add_add,q2,fV,Ay (by omega)] at this
   rw [this,B5,Ay (by omega)]
   rfl
  obtain ⟨Z,hZ⟩:=choose_lt each;have hu:uni fs.size ((List.range len).map Z):=fun x hx=>by
   obtain ⟨i,hi,rfl⟩:=B3.1 hx;exact (hZ i (by have:=iN.1 hi;omega)).1
  have hfl:=pO hu;have hlen:((List.range len).map Z).length=len:=by simp
  have hcell:∀ c,c<len*fs.size→W.cell? (a.add c)=some (.int .i64 ((Z (c / fs.size)).getD (c % fs.size) 0)):=fun c hc=>by
   have h1:c / fs.size<len:=(Nat.div_lt_iff_lt_mul hk).2 hc;have h2:c % fs.size<fs.size:=aQz _ hk;have:=(hZ (c / fs.size) (by omega)).2 (c % fs.size) h2
   rwa [Nat.div_add_mod'] at this
  refine ⟨(List.range len).map Z,_,hcs,hu,?_,rfl⟩;rw [hlen] at hfl ⊢
  refine .sl len _ (some a) m (fun c => .int .i64 ((Z (c / fs.size)).getD (c % fs.size) 0)) hl hm (fun i hi => ?_) (fun i hi => ?_) (fun i hi=>rfl)
  ·have Ct:i<len*fs.size:=by rw [Co,hfl] at hi;exact hi
   have q1:=aIo (hcell 0 (by omega))
   have q2:=hcell i Ct;rw [q1,Addr.add_lit] at q2
   exact ⟨a.block,a.off,by rw [← q1],World.block_lt_of_cell? W ⟨a.block,a.off+i,none⟩ q2,q2⟩
  ·have Ct:i<len*fs.size:=by rw [Co,hfl] at hi;exact hi
   have h1:i / fs.size<len:=(Nat.div_lt_iff_lt_mul hk).2 Ct;have h2:i % fs.size<fs.size:=aQz _ hk;have hzl:=(hZ (i / fs.size) (by omega)).1
   have hx:((List.range len).map Z)[i / fs.size]? = some (Z (i / fs.size)):=by simp [h1]
   have hy:(Z (i / fs.size))[i % fs.size]? = some ((Z (i / fs.size)).getD (i % fs.size) 0):=by
    rw [B5,Ay (by omega)];rfl
   have:=bE hu hx hy;rw [Nat.div_add_mod'] at this
   rw [Ay hi] at this
   rw [Option.some.inj this];exact .v _
theorem bPx{t ti ts td es ed:TypeId}{f0 f1 f2:Field}{gs gd:Array Field}{v:Value}{d:DataW H}{ps:List MemPlace}{base:Nat}(ht:P.underlying t=some (.struct #[f0,f1,f2]))
  (hi:P.underlying ti=some (.int .i64)) (hs:P.underlying ts=some (.slice es)) (hd:P.underlying td=some (.slice ed)) (hes:P.underlying es=some (.struct gs)) (hed:P.underlying ed=some (.struct gd))
  (ns:gs.size=2) (nd:gd.size=6) (ces:P.cellsOf es=2) (ced:P.cellsOf ed=6) (hFs:aIn P gs) (hFd:aIn P gd) (ci:P.cellsOf ti=1) (cs:P.cellsOf ts=1) (cd:P.cellsOf td=1) (ct:P.cellsOf t=3)
  (t0:f0.type=ti) (t1:f1.type=ts) (t2:f2.type=td) (o0:f0.offset=0) (o1:f1.offset=1) (o2:f2.offset=2)
  (hok:Value.okWide P W .any base t v) (h:DataW.Trod enc P W 0 (fun _=>true) true t v d ps):∃ (dl:Int) (sk dc:Lqq),(Lit.int .i64 dl).wf=true∧uni 2 sk∧uni 6 dc∧cM (CxW W).F W (.agg [aB dl,.sl sk.length (sk.flatten.map aB),.sl dc.length (dc.flatten.map aB)]) v:=by
 obtain ⟨Bz,rfl,hsz⟩:=okWide_struct ht hok;obtain ⟨fuel,hf⟩:=h;obtain ⟨xs,n,_,_,hl,hx,hg⟩:=DataW.trod_struct ht hf;have hcs:(Value.agg Bz).cells.toList=Bz.toList:=by simp [Value.cells]
 rw [hcs] at hg hl
 rw [ct] at hsz
 obtain ⟨l⟩:=Bz
 match l,hsz with
 | [u0,u1,u2],_ =>
  match xs,hx with
  | [x0,x1,x2],_ =>
   have g0:=hg 0 f0 rfl;have g1:=hg 1 f1 rfl;have g2:=hg 2 f2 rfl;rw [t0,o0,ci] at g0
   rw [t1,o1,cs] at g1
   rw [t2,o2,cd] at g2
   simp only [List.drop,List.take,List.getElem?_cons_zero,List.getElem?_cons_succ] at g0 g1 g2
   obtain ⟨n0,e0,_,w0⟩:=DataW.trod_int hi g0;obtain ⟨sk,p1,e1,q1,r1,s1⟩:=aEa hs hes (by omega) (by omega) hFs g1
   obtain ⟨dc,p2,e2,q2,r2,s2⟩:=aEa hd hed (by omega) (by omega) hFd g2
   simp only [List.cons.injEq,and_true] at e0 e1 e2
   subst e0 e1 e2;rw [ns] at q1
   rw [nd] at q2
   refine ⟨n0,sk,dc,w0,q1,q2,.agg _ _ (fun i hi => ?_) rfl (fun i hi => ?_)⟩
   ·match i,hi with
    | 0,_=>rfl
    | 1,_=>exact s1
    | 2,_=>exact s2
   ·match i,hi with
    | 0,_=>exact .v _
    | 1,_=>exact r1
    | 2,_=>exact r2
end
end KV
end Go.Proofs
end
namespace Go.Proofs
namespace KV
open Tryz
section
section
variable {l:Lqq} {j i:Nat} {xs:List Int} {v:Int}
end
end
end KV
end Go.Proofs
section
namespace Go.Proofs
open Go.RowKit
namespace KV
open Tryz
variable {P:Program} {C C0:Cx} {M M0:Mem} {w w0:World}

def nK(w:World)(b:Nat):Prop:=∃ o:Obj,w.heap[b]? = some o∧o.isCells=true
theorem xQ{b o:Nat}{v:Value}(h:w.cell? ⟨b,o,none⟩=some v):nK w b:=cells_of_cell h
theorem gD{b ty:Nat}{arr:Array Value}{fr:Nat × Nat}(h:w.heap[b]? = some (.cells arr ty fr)):nK w b:=⟨_,h,rfl⟩

mutual
def nmP:PV→Bool
 | .v _=>true
 | .sl _ cs=>lE cs
 | .agg cs=>lE cs
 | .mp _=>false
 | .rp cs _=>lE cs
def lE:List PV→Bool
 | []=>true
 | x::r=>nmP x && lE r
end
theorem sI:∀ {l:List PV},lE l=true→∀ (i:Nat) (h:i<l.length),nmP l[i]=true
 | [],_,i,h=>by simp at h
 | x::r,hl,i,h=>by
  rw [lE,Ce] at hl
  cases i with
  | zero=>exact hl.1
  | succ i=>exact sI hl.2 i (by simpa using h)
theorem aGi{α:Type}(g:α→PV)(h:∀ x,nmP (g x)=true):∀ l:List α,lE (l.map g)=true
 | []=>rfl
 | x::r=>by rw [iB,lE,h,aGi g h r];rfl
mutual
def nmA:AV→Bool
 | .p x=>nmP x
 | .rp cs _=>lE cs
 | .agg l=>nmL l
 | .tup l=>nmL l
 | .fn _ a b=>nmL a && nmL b
 | _=>true
def nmL:List AV→Bool
 | []=>true
 | x::r=>nmA x && nmL r
end
theorem xR:∀ {l:List AV},nmL l=true→∀ (i:Nat) (h:i<l.length),nmA l[i]=true
 | [],_,i,h=>by simp at h
 | x::r,hl,i,h=>by
  rw [nmL,Ce] at hl
  cases i with
  | zero=>exact hl.1
  | succ i=>exact xR hl.2 i (by simpa using h)
def nmM:Mem→Bool
 | []=>true
 | some (.row _ _ cs)::r=>lE cs && nmM r
 | some (.box _ l)::r=>nmL l && nmM r
 | _::r=>nmM r
theorem aGj:∀ {m:Mem},nmM m=true→(∀ (i ty n:Nat) (cs:List PV),m[i]? = some (some (.row ty n cs))→lE cs=true)∧∀ (i ty:Nat) (l:List AV),m[i]? = some (some (.box ty l))→nmL l=true
 | [],_=>⟨fun i ty n cs h=>by simp at h,fun i ty l h=>by simp at h⟩
 | x::r,hm=>by
  have hr:nmM r=true:=by
   cases x with
   | none=>exact hm
   | some o=>cases o <;> simp [nmM] at hm <;> first | exact hm.2 | exact hm
  obtain ⟨h1,h2⟩:=aGj hr;refine ⟨fun i ty n cs h => ?_,fun i ty l h => ?_⟩
  ·cases i with
   | zero=>simp at h;subst h;simp [nmM] at hm;exact hm.1
   | succ i=>exact h1 i ty n cs (by simpa using h)
  ·cases i with
   | zero=>simp at h;subst h;simp [nmM] at hm;exact hm.1
   | succ i=>exact h2 i ty l (by simpa using h)
theorem cM.shrink{F F':Nat→Prop}{x:PV}{u:Value}(h:cM F w x u)(hF:∀ b,F b→nK w b→F' b)(hm:nmP x=true):cM F' w x u:=by
 induction h with
 | v x=>exact .v x
 | sl n cs p cap us h1 h2 h3 _ h5 ih =>
  rw [nmP] at hm
  refine .sl n cs p cap us h1 h2 (fun i hi => ?_) (fun i hi=>ih i hi (sI hm i hi)) h5
  obtain ⟨b,o,hp,hb,hc⟩:=h3 i hi;exact ⟨b,o,hp,hF b hb (xQ hc),hc⟩
 | agg cs vs h0 h1 _ ih =>
  rw [nmP] at hm
  exact .agg cs vs h0 h1 fun i hi=>ih i hi (sI hm i hi)
 | mp=>simp [nmP] at hm
 | rp cs off b o us h1 _ h3 ih =>
  rw [nmP] at hm
  exact .rp cs off b o us (fun i hi=>⟨hF b (h1 i hi).1 (xQ (h1 i hi).2),(h1 i hi).2⟩) (fun i hi=>ih i hi (sI hm i hi)) h3
theorem Rep.shrink{F':Nat→Prop}{x:AV}{u:Value}(h:Rep C M w x u)(hF:∀ b,C.F b→nK w b→F' b)(hm:nmA x=true):Rep ⟨C.ι,C.κ,F',[]⟩ M w x u:=by
 induction h with
 | p x u h=>exact .p x u (h.shrink hF (by simpa [nmA] using hm))
 | any u=>exact .any u
 | kb b=>exact .kb b
 | yld l=>exact .yld l
 | own id u h0 ha h=>exact .own id u h0 ha h
 | arr id off n u h0 ha h=>exact .arr id off n u h0 ha h
 | ptr id off u h0 ha h hp=>exact .ptr id off u h0 ha h hp
 | mp id u h0 ha h=>exact .mp id u h0 ha h
 | pa id q u h0 ha h=>exact .pa id q u h0 ha h
 | rp cs off b o us h1 h2 h3 =>
  have D3:lE cs=true:=by simpa [nmA] using hm
  exact .rp cs off b o us (fun i hi=>⟨hF b (h1 i hi).1 (xQ (h1 i hi).2),(h1 i hi).2⟩) (fun i hi=>(h2 i hi).shrink hF (sI D3 i hi)) h3
 | agg cs vs h0 h1 _ ih =>
  have D3:nmL cs=true:=by simpa [nmA] using hm
  exact .agg cs vs h0 h1 fun i hi=>ih i hi (xR D3 i hi)
 | tup cs vs h1 _ ih =>
  have D3:nmL cs=true:=by simpa [nmA] using hm
  exact .tup cs vs h1 fun i hi=>ih i hi (xR D3 i hi)
 | fn f cs ds us vs h1 h2 _ _ Jk Ie =>
  have D3:nmL cs=true∧nmL ds=true:=by simpa [nmA] using hm
  exact .fn f cs ds us vs h1 h2 (fun i hi=>Jk i hi (xR D3.1 i hi)) fun i hi=>Ie i hi (xR D3.2 i hi)

def aCj(M:Mem):Prop:=(∀ (i:Nat) (es:List (Value × PV)) (cl:Nat),M[i]? ≠ some (some (.mp es cl)))∧aUe M
def gP:Mem→Bool
 | []=>true
 | some (.pk _ _ _ _)::_=>false
 | some (.mp _ _)::_=>false
 | _::r=>gP r
theorem eM:∀ {m:Mem},gP m=true→aCj m
 | [],_=>⟨fun i es cl h=>by simp at h,fun i o h=>by simp at h⟩
 | none::r,hm=>by
  obtain ⟨h1,h2⟩:=eM (m:=r) hm;refine ⟨fun i es cl h => ?_,fun i o h => ?_⟩
  ·cases i with
   | zero=>simp at h
   | succ i=>exact h1 i es cl (by simpa using h)
  ·cases i with
   | zero=>simp at h
   | succ i=>exact h2 i o (by simpa using h)
 | some x::r,hm=>by
  have hr:gP r=true∧x.isPk=false∧∀ es cl,x ≠ .mp es cl:=by
   cases x with
   | pk=>simp [gP] at hm
   | mp=>simp [gP] at hm
   | _=>exact ⟨by simpa [gP] using hm,rfl,fun _ _ e=>by cases e⟩
  obtain ⟨h1,h2⟩:=eM (m:=r) hr.1;refine ⟨fun i es cl h => ?_,fun i o h => ?_⟩
  ·cases i with
   | zero=>simp at h;exact hr.2.2 _ _ h
   | succ i=>exact h1 i es cl (by simpa using h)
  ·cases i with
   | zero=>simp at h;rw [← h];exact hr.2.1
   | succ i=>exact h2 i o (by simpa using h)

theorem xS{M':Mem}{W:World}(hn:aCj M')(hq:nmM M'=true)(hF:∀ b,C.F b→b<w.heap.size){C':Cx}(hM:aU P C' M' W)(f:Fr C M w C' M' W) :
  ∃ C'',aU P C'' M' W∧Fr C M w C'' M' W∧(∀ b,C''.F b→b<w.heap.size∨nK W b):=by
 refine ⟨⟨C'.ι,C'.κ,fun b=>C'.F b∧(b<w.heap.size∨nK W b),[]⟩,⟨fun i ty n cs hm => ?_,fun i ty cs hm => ?_,fun i es cl hm=>absurd hm (hn.1 _ _ _),hM.inj,fun i o b ho hl hb hf=>hM.nF i o b ho hl hb hf.1,fun b hb=>hM.Fs b hb.1,hM.lt⟩,
  ⟨f.os,f.tape,f.out,f.size,f.keep,f.ids,f.row,f.liv,f.new,fun b hb=>⟨f.F1 b hb,.inl (hF b hb)⟩,fun b hb=>f.F2 b hb.1⟩,fun b hb=>hb.2⟩
 ·rcases hM.row _ _ _ _ hm with h4 | ⟨b,arr,inf,q0,q1,q2,q3,q4,q5,q6,q7,q8⟩
  ·exact .inl h4
  ·exact .inr ⟨b,arr,inf,q0,q1,q2,q3,q4,q5,q6,fun j hj=>(q7 j hj).shrink (fun b hb hs=>⟨hb,.inr hs⟩) (sI ((aGj hq).1 _ _ _ _ hm) j hj),q8⟩
 ·obtain ⟨b,arr,q0,q1,q2,q3,q4⟩:=hM.box _ _ _ hm
  exact ⟨b,arr,q0,q1,q2,fun j hj=>(q3 j hj).shrink (fun b hb hs=>⟨hb,.inr hs⟩) (xR ((aGj hq).2 _ _ _ hm) j hj),q4⟩

def bKf(P:Program)(C:Cx)(M:Mem)(w:World)(M':Mem)(W:World):Prop:=∃ C',aU P C' M' W∧Fr C M w C' M' W

theorem kL{W:World}{b:Nat}{o:Obj}(h:W.heap[b]? = some o)(ho:o.isCells=false):¬ nK W b:=fun ⟨o',h',hc⟩=>by rw [h] at h';cases h';rw [ho] at hc;cases hc

theorem bKf.own{M':Mem}{W W':World}{row:Option Nat}(hn:aCj M')(hq:nmM M'=true)(hF:∀ b,C.F b→b<w.heap.size)(h:bKf P C M w M' W)(hg:W.grownBy W' row)
  (hr:∀ r,row=some r→w.heap.size≤r∧∃ o:Obj,W.heap[r]? = some o∧o.isCells=false):bKf P C M w M' W':=by
 obtain ⟨C1,h1,h2⟩:=h;obtain ⟨C',hM,f,hS⟩:=xS hn hq hF h1 h2;have hsame:∀ b,b<W.heap.size→(b<w.heap.size∨nK W b)→W'.heap[b]? = W.heap[b]? := fun b hb hd=>hg.block b hb (fun e=>by
  obtain ⟨q1,o,q2,q3⟩:=hr b e.symm
  rcases hd with hd | hd
  ·omega
  ·exact kL q2 q3 hd)
 have hFz:∀ b,C'.F b→W'.heap[b]? = W.heap[b]? := fun b hb=>hsame b (hM.Fs b hb) (hS b hb)
 have hL:Le C' C' M' M' W W':=⟨fun _ o h=>⟨o,h⟩,fun _ _ _ _ _ cs h=>⟨cs,h⟩,fun _ o h o' h' hl=>by rw [h] at h';cases h';exact ⟨hl,rfl,rfl⟩,fun _ h=>h,hFz⟩
 refine ⟨C',⟨fun i ty n cs hm => ?_,fun i ty cs hm => ?_,fun i es cl hm=>absurd hm (hn.1 _ _ _),hM.inj,hM.nF,fun b hb=>gF (hM.Fs b hb) hg.size,fun i o b ho hl hb=>gF (hM.lt i o b ho hl hb) hg.size⟩,
  ⟨hg.os.trans f.os,hg.tape.trans f.tape,hg.output.trans f.out,fL f.size hg.size,fun b hb hno=>(hsame b (gF hb f.size) (.inl hb)).trans (f.keep b hb hno),f.ids,f.row,f.liv,f.new,f.F1,f.F2⟩⟩
 ·rcases hM.row _ _ _ _ hm with h4 | ⟨b,arr,inf,q0,q1,q2,q3,q4,q5,q6,q7,q8⟩
  ·exact .inl h4
  ·exact .inr ⟨b,arr,inf,q0,(hsame b (nR.1 q1).1 (.inr (gD q1))).trans q1,q2,q3,q4,q5,q6,fun j hj=>(q7 j hj).mono hL.F hL.fz,q8⟩
 ·obtain ⟨b,arr,q0,q1,q2,q3,q4⟩:=hM.box _ _ _ hm
  exact ⟨b,arr,q0,(hsame b (nR.1 q1).1 (.inr (gD q1))).trans q1,q2,fun j hj=>(q3 j hj).mono hL,q4⟩

structure KpG (F:Nat→Prop) (A B:World):Prop where
 size:A.heap.size≤B.heap.size
 same:∀ b,F b→B.heap[b]? = A.heap[b]?
theorem KpG.refl(F:Nat→Prop)(A:World):KpG F A A:=⟨dF _,fun _ _=>rfl⟩
theorem KpG.trans{F:Nat→Prop}{A B D:World}(h:KpG F A B)(k:KpG F B D):KpG F A D:=⟨fL h.size k.size,fun b hb=>(k.same b hb).trans (h.same b hb)⟩

def cIh(P:Program){α:Type}(g:AV)(encs:α→Array Value)(gf N:Nat)(S:List α→Prop):Prop:=∀ (C:Cx) (M:Mem) (w:World) (u:Value),Rep C M w g u→(∀ b,C.F b→b<w.heap.size) →
 ∃ lb Sp,u = .func (.func gf) #[] lb∧SeqStopsK Fence.wide 2 P gf lb encs (KpG C.F) S Sp N w

theorem bSm{ro:Option Nat}{n:Nat}:(Fen ro).room n:=fun d hd=>by cases hd
theorem aGk{ro:Option Nat}{n m:Nat}{c:Code}{Q:Exit→Act→World→Prop}{a:Act}(h:c.wpIn (Fen ro) n P Q a w):c.wpIn (Fen ro) m P Q a w:=fun b k cs hro hb _=>h b k cs hro hb bSm

theorem aNh{C:Cx}{M:Mem}{W:World}(hM:aU P C M W)(hn:aCj M){b:Nat}{o:Obj}(h:W.heap[b]? = some o)(ho:o.isCells=false):∀ (id:Nat) (x:AO),M[id]? = some (some x)→x.live=true→C.ι id≠some b:=fun id x hx hl hb=>by
 cases x with
 | row ty n cs =>
  rcases hM.row _ _ _ _ hx with ⟨h1,_⟩ | ⟨b',arr,i,h1,h2,_⟩
  ·rw [hb] at h1;cases h1
  ·rw [hb] at h1;cases h1;exact kL h ho (gD h2)
 | box ty cs =>
  obtain ⟨b',arr,h1,h2,_⟩:=hM.box _ _ _ hx;rw [hb] at h1;cases h1;exact kL h ho (gD h2)
 | mp es cl=>exact hn.1 _ _ _ hx
 | pk to ti sz L=>have:=hn.2 _ _ hx;cases this
 | dead=>cases hl

theorem Pz(p q:Nat)(a b:Value)(t:Array Value):(#[p,q].zip #[a,b]).foldl (fun t (x:Nat × Value)=>t.setIfInBounds x.1 x.2) t=(t.setIfInBounds p a).setIfInBounds q b:=by simp

end KV
end Go.Proofs
end
namespace Go.Proofs
namespace KV
open Tryz
section

theorem aD.count{P:Program}{k:Nat}{b:Code}{e:Ex}{R:St}(N:Nat)(S:Nat→St)(hs:∀ i,i<N→aC P k b (S i) .normal (S (i+1)))(hx:aC P k b (S N) e R)(he:e ≠ .normal):aD P k b (S 0) e R:=by
 have key:∀ d i,i+d=N→aD P k b (S i) e R:=by
  intro d
  induction d with
  | zero =>
   intro i hi;obtain rfl:i=N:=by omega
   exact .exit hx he
  | succ d ih=>intro i hi;exact .step (hs i (by omega)) (ih (i+1) (by omega))
 exact key N 0 (by omega)

theorem aD.until{P:Program}{k:Nat}{b:Code}{e:Ex}{R:St}(N:Nat)(S:Nat→St)(n:Nat)(hn:n≤N)(hs:∀ i,i<n→aC P k b (S i) .normal (S (i+1)))(hx:aC P k b (S n) e R)(he:e ≠ .normal):aD P k b (S 0) e R:=aD.count n S hs hx he

def fM(l:List Int):List (Value × PV):=l.map fun k=>(.int .i64 k,blP true)
theorem aXf(l:List Int)(k:Int):fM (l++[k])=fM l++[(.int .i64 k,blP true)]:=by unfold fM;rw [iA];rfl
theorem pX{n:Int}(hn : -1000000≤n∧n≤1000000):aQf .i64 (.int .i64 n)=true:=by
 show (decide (IntKind.i64=IntKind.i64) && (Lit.int .i64 n).wf)=true;have:(Lit.int .i64 n).wf=true:=by
  have e1:IntKind.i64.min = -9223372036854775808:=rfl;have e2:IntKind.i64.max=9223372036854775807:=rfl;simp only [Lit.wf,e1,e2,Ce,decide_eq_true_eq];omega
 rw [this];rfl
theorem aXg{l:List Int}(hn:l.Nodup)(hb:∀ x∈l,-1000000≤x∧x≤1000000){x:Int}(hx : -1000000≤x∧x≤1000000):cR .i64 (fM l) (.int .i64 x):=by
 refine ⟨fun e he => ?_,pX hx,?_⟩
 ·obtain ⟨y,hy,rfl⟩:=B3.1 he
  exact pX (hb y hy)
 ·unfold fM
  rw [wC];have:l.map ((fun e:Value × PV=>jU e.1) ∘ fun k=>(Value.int .i64 k,blP true))=l:=by
   conv=>rhs;rw [← List.map_id l]
   exact aAi fun x _=>rfl
  rw [this];exact hn
theorem bSk{l:List Int}{x:Int}(h:x∉l):eA (fM l) (.int .i64 x)=false:=by
 unfold eA;rw [List.any_eq_false];intro e he;obtain ⟨y,hy,rfl⟩:=B3.1 he;intro h2;have h3:y=x:=of_decide_eq_true h2;exact h (h3 ▸ hy)
theorem bSl{l:List Int}{x:Int}(h:x∈l):eA (fM l) (.int .i64 x)=true:=by
 unfold eA;rw [List.any_eq_true];exact ⟨_,B3.2 ⟨x,h,rfl⟩,decide_eq_true rfl⟩

theorem bKe{l:List Int}{x:Int}(h:x∈l):gG (fM l) (.int .i64 x)=some (blP true):=by
 induction l with
 | nil=>cases h
 | cons a l ih =>
  by_cases e:a=x
  ·subst e;simp [fM,gG]
  ·have h2:x∈l:=by rcases fW.1 h with h | h;exact absurd h.symm e;exact h
   have:=ih h2;simpa [fM,gG,jU,e] using this
def within(n lo hi:Int):Bool:=decide (lo≤n) && decide (n≤hi)
def aP(f:Lqq)(j:Nat):List Int:=f.map fun x=>x.getD j 0
theorem A7{y:List Int}(h:y.length=6):∃ a b c d e f,y=[a,b,c,d,e,f]:=by
 match y,h with
 | [a,b,c,d,e,f],_=>exact ⟨a,b,c,d,e,f,rfl⟩
theorem at2{f:Lqq}(hu:uni 2 f){i:Nat}(hi:i<f.length):∃ a b,f[i]? = some [a,b]:=by
 obtain ⟨a,b,e⟩:=len2 (hu _ (fP hi));exact ⟨a,b,by rw [Ay hi,e]⟩
theorem Td{f:Lqq}(hu:uni 6 f){i:Nat}(hi:i<f.length):∃ a b c d e g,f[i]? = some [a,b,c,d,e,g]:=by
 obtain ⟨a,b,c,d,e,g,h⟩:=A7 (hu _ (fP hi));exact ⟨a,b,c,d,e,g,by rw [Ay hi,h]⟩
theorem aDp{α:Type}{p:α→Bool}{l:List α}:(!(decide (bJ (fun x => !p x) l ≥ 0)))=l.all p:=by
 rw [mP,List.not_any_eq_all_not]
 congr 1
 funext x
 rw [Bool.not_not]
end
section
variable {r0:Bool}{n dl hi lo x0 x1 x2 x3 x4 x5 Aj Aa Ab:Int}{dc sk:Lqq}{l m o o' Ro D1:List Int}{i i' Bm base:Nat}

noncomputable abbrev aGh:Code:=sub (cd Tryz.f108) [1,1,0,1,0,0]
noncomputable abbrev bBn:Code:=sub (cd Tryz.f109) [1,1,0,1,0,0]
noncomputable abbrev bBo:Code:=sub (cd Tryz.f110) [1,1,0,1,0,0]
theorem cNs(h0:lo≤n)(A6:r0=(decide (n≤hi))):FV Tp 103 [(pI n),(pI lo),(pI hi)] base (pB r0) []:=by
 subst A6;exact FV.fi func103 [bT,bT,bT,bT] (Au (oQ h0) gn)
theorem cNt(h0:n<lo):FV Tp 103 [(pI n),(pI lo),(pI hi)] base (pB false) []:=FV.fi func103 [bF,bF,bF,bF] (Au (kZ h0) gn)
theorem cD(n lo hi:Int){base:Nat}:FV Tp 103 [.p (aB n),.p (aB lo),.p (aB hi)] base (pB (within n lo hi)) []:=by
 by_cases h:lo≤n
 ·exact cNs h (by simp [within,h])
 ·have e:within n lo hi=false:=by simp [within,h]
  rw [e];exact cNt (show n<lo by omega)
theorem cHq{k:Int}(A6:r0=(decide (k≤4))):FV Tp 112 [(pI k)] base (pB r0) []:=by
 subst A6;exact FV.fi func112 [] gn
theorem eR(k:Int){base:Nat}:FV Tp 112 [.p (aB k)] base (pB (decide (k≤4))) []:=cHq rfl
theorem cHr(h0:(within x0 1 999)=true)(A6:r0=(within x1 (-1) 360000)):FV Tp 105 [(.p (.agg [(aB x0),(aB x1)]))] base (pB r0) []:=by
 subst A6;have k1:=fk 1 (cD x0 1 999) rfl;have k2:=fk 1 (cD x1 (-1) 360000) rfl;exact FV.fi func105 [k1.o,bT,bT,bT,k2.o,bT] (gc h0 (gc k2 (Ak h0 (gc k1 gn))))
theorem cHs(h0:(within x0 1 999)=false):FV Tp 105 [(.p (.agg [(aB x0),(aB x1)]))] base (pB false) []:=have k1:=fk 1 (cD x0 1 999) rfl;FV.fi func105 [k1.o,bF,bF,bF,bF] (Au h0 (gc k1 gn))
def skB(x:List Int):Bool:=within (x.getD 0 0) 1 999 && within (x.getD 1 0) (-1) 360000
theorem cHt(x0 x1:Int){base:Nat}:FV Tp 105 [.p (.agg [aB x0,aB x1])] base (pB (skB [x0,x1])) []:=by
 cases h:within x0 1 999 with
 | true=>exact cHr h (show (within x0 1 999 && _)=_ by rw [h];rfl)
 | false=>rw [show skB [x0,x1]=false from show (within x0 1 999 && _)=_ by rw [h];rfl];exact cHs h
def nJ(k:Int):Int:=if k=3∨¬ k≤4∧k≠6 then 0 else 36000
def dcB(x:List Int):Bool:=within (x.getD 0 0) 1 9999 && (within (x.getD 1 0) 0 9 && (within (x.getD 2 0) 0 10000 && within (x.getD 4 0) 0 (nJ (x.getD 1 0))))
abbrev dcE(a b c d e f:Int):PV := .agg [aB a,aB b,aB c,aB d,aB e,aB f]
theorem iF(a b c d e f:Int):dcB [a,b,c,d,e,f]=(within a 1 9999 && (within b 0 9 && (within c 0 10000 && within e 0 (nJ b)))):=rfl
section
variable(h0:x1=3)(h1:(within x0 1 9999)=true)
include h0 h1
theorem cHu(h2:(within x1 0 9)=true)(h3:(within x2 0 10000)=true)(A6:r0=(within x4 0 0)):FV Tp 107 [(.p (.agg [(aB x0),(aB x1),(aB x2),(aB x3),(aB x4),(aB x5)]))] base (pB r0) []:=by
 subst A6;have k1:=fk 1 (cD x0 1 9999) rfl;have k2:=fk 1 (cD x1 0 9) rfl;have k3:=fk 1 (cD x2 0 10000) rfl;have k4:=fk 1 (cD x4 0 0) rfl;exact FV.fi func107 (rT 7++[k1.o,bT,bT,bT,k2.o,bT,bT,bT,bT,k3.o]++rT 5++[k4.o,bT]) (gc h3 (gc k4 (Au h3 (gc h2 (gc k3 (Ak h2 (gc h1 (gc k2 (Ak h1 (gc k1 (Ja (bX h0) gn)))))))))))
theorem cHv(h2:(within x1 0 9)=true)(h3:(within x2 0 10000)=false):FV Tp 107 [(.p (.agg [(aB x0),(aB x1),(aB x2),(aB x3),(aB x4),(aB x5)]))] base (pB false) []:=have k1:=fk 1 (cD x0 1 9999) rfl;have k2:=fk 1 (cD x1 0 9) rfl;have k3:=fk 1 (cD x2 0 10000) rfl;FV.fi func107 (rT 7++[k1.o,bT,bT,bT,k2.o,bT,bT,bT,bT,k3.o,bT]++rF 5) (B0 h3 (gc h2 (gc k3 (Ak h2 (gc h1 (gc k2 (Ak h1 (gc k1 (Ja (bX h0) gn)))))))))
theorem cHw(h2:(within x1 0 9)=false):FV Tp 107 [(.p (.agg [(aB x0),(aB x1),(aB x2),(aB x3),(aB x4),(aB x5)]))] base (pB false) []:=have k1:=fk 1 (cD x0 1 9999) rfl;have k2:=fk 1 (cD x1 0 9) rfl;FV.fi func107 (rT 7++[k1.o,bT,bT,bT,k2.o,bT,bF,bF,bF,bF]) (Au h2 (gc h1 (gc k2 (Ak h1 (gc k1 (Ja (bX h0) gn))))))
end
theorem cHx(h0:x1=3)(h1:(within x0 1 9999)=false):FV Tp 107 [(.p (.agg [(aB x0),(aB x1),(aB x2),(aB x3),(aB x4),(aB x5)]))] base (pB false) []:=have k1:=fk 1 (cD x0 1 9999) rfl;FV.fi func107 (rT 7++[k1.o,bF,bF,bF,bF]) (Au h1 (gc k1 (Ja (bX h0) gn)))
section
variable(h0:x1≠3)(h1:(decide (x1≤4))=false)
include h0 h1
theorem cHy(h2:x1≠6)(h3:(within x0 1 9999)=true)(h4:(within x1 0 9)=true)(h5:(within x2 0 10000)=true)(A6:r0=(within x4 0 0)):FV Tp 107 [(.p (.agg [(aB x0),(aB x1),(aB x2),(aB x3),(aB x4),(aB x5)]))] base (pB r0) []:=by
 subst A6;have k1:=fk 1 (eR x1) rfl;have k2:=fk 1 (cD x0 1 9999) rfl;have k3:=fk 1 (cD x1 0 9) rfl;have k4:=fk 1 (cD x2 0 10000) rfl;have k5:=fk 1 (cD x4 0 0) rfl;exact FV.fi func107 ([bF,bF,bF,k1.o,bF,bF,bT,bT,bT,bF,bT,bF,bT,k2.o,bT,bT,bT,k3.o,bT,bT,bT,bT,k4.o]++rT 5++[k5.o,bT]) (gc h5 (gc k5 (Au h5 (gc h4 (gc k4 (Ak h4 (gc h3 (gc k3 (Ak h3 (gc k2 (gc (fH h2) (gc (aS h0) (gc (bN h1) (gc (aS h0) (Ak (bN h1) (Aq (aS h0) (gc k1 (Ak (aS h0) gn))))))))))))))))))
theorem cHz(h2:x1≠6)(h3:(within x0 1 9999)=true)(h4:(within x1 0 9)=true)(h5:(within x2 0 10000)=false):FV Tp 107 [(.p (.agg [(aB x0),(aB x1),(aB x2),(aB x3),(aB x4),(aB x5)]))] base (pB false) []:=have k1:=fk 1 (eR x1) rfl;have k2:=fk 1 (cD x0 1 9999) rfl;have k3:=fk 1 (cD x1 0 9) rfl;have k4:=fk 1 (cD x2 0 10000) rfl;FV.fi func107 ([bF,bF,bF,k1.o,bF,bF,bT,bT,bT,bF,bT,bF,bT,k2.o,bT,bT,bT,k3.o,bT,bT,bT,bT,k4.o,bT]++rF 5) (B0 h5 (gc h4 (gc k4 (Ak h4 (gc h3 (gc k3 (Ak h3 (gc k2 (gc (fH h2) (gc (aS h0) (gc (bN h1) (gc (aS h0) (Ak (bN h1) (Aq (aS h0) (gc k1 (Ak (aS h0) gn))))))))))))))))
theorem cIa(h2:x1≠6)(h3:(within x0 1 9999)=true)(h4:(within x1 0 9)=false):FV Tp 107 [(.p (.agg [(aB x0),(aB x1),(aB x2),(aB x3),(aB x4),(aB x5)]))] base (pB false) []:=have k1:=fk 1 (eR x1) rfl;have k2:=fk 1 (cD x0 1 9999) rfl;have k3:=fk 1 (cD x1 0 9) rfl;FV.fi func107 [bF,bF,bF,k1.o,bF,bF,bT,bT,bT,bF,bT,bF,bT,k2.o,bT,bT,bT,k3.o,bT,bF,bF,bF,bF] (Au h4 (gc h3 (gc k3 (Ak h3 (gc k2 (gc (fH h2) (gc (aS h0) (gc (bN h1) (gc (aS h0) (Ak (bN h1) (Aq (aS h0) (gc k1 (Ak (aS h0) gn)))))))))))))
theorem cIb(h2:x1≠6)(h3:(within x0 1 9999)=false):FV Tp 107 [(.p (.agg [(aB x0),(aB x1),(aB x2),(aB x3),(aB x4),(aB x5)]))] base (pB false) []:=have k1:=fk 1 (eR x1) rfl;have k2:=fk 1 (cD x0 1 9999) rfl;FV.fi func107 [bF,bF,bF,k1.o,bF,bF,bT,bT,bT,bF,bT,bF,bT,k2.o,bF,bF,bF,bF] (Au h3 (gc k2 (gc (fH h2) (gc (aS h0) (gc (bN h1) (gc (aS h0) (Ak (bN h1) (Aq (aS h0) (gc k1 (Ak (aS h0) gn))))))))))
theorem cIc(h2:x1=6)(h3:(within x0 1 9999)=true)(h4:(within x1 0 9)=true)(h5:(within x2 0 10000)=true)(A6:r0=(within x4 0 36000)):FV Tp 107 [(.p (.agg [(aB x0),(aB x1),(aB x2),(aB x3),(aB x4),(aB x5)]))] base (pB r0) []:=by
 subst A6;have k1:=fk 1 (eR x1) rfl;have k2:=fk 1 (cD x0 1 9999) rfl;have k3:=fk 1 (cD x1 0 9) rfl;have k4:=fk 1 (cD x2 0 10000) rfl;have k5:=fk 1 (cD x4 0 36000) rfl;exact FV.fi func107 ([bF,bF,bF,k1.o,bF,bF,bT,bT,bT,bF,bT,bF,bF,k2.o,bT,bT,bT,k3.o,bT,bT,bT,bT,k4.o]++rT 5++[k5.o,bT]) (gc h5 (gc k5 (Au h5 (gc h4 (gc k4 (Ak h4 (gc h3 (gc k3 (Ak h3 (gc k2 (gc (bG h2) (gc (aS h0) (gc (bN h1) (gc (aS h0) (Ak (bN h1) (Aq (aS h0) (gc k1 (Ak (aS h0) gn))))))))))))))))))
theorem cId(h2:x1=6)(h3:(within x0 1 9999)=true)(h4:(within x1 0 9)=true)(h5:(within x2 0 10000)=false):FV Tp 107 [(.p (.agg [(aB x0),(aB x1),(aB x2),(aB x3),(aB x4),(aB x5)]))] base (pB false) []:=have k1:=fk 1 (eR x1) rfl;have k2:=fk 1 (cD x0 1 9999) rfl;have k3:=fk 1 (cD x1 0 9) rfl;have k4:=fk 1 (cD x2 0 10000) rfl;FV.fi func107 ([bF,bF,bF,k1.o,bF,bF,bT,bT,bT,bF,bT,bF,bF,k2.o,bT,bT,bT,k3.o,bT,bT,bT,bT,k4.o,bT]++rF 5) (B0 h5 (gc h4 (gc k4 (Ak h4 (gc h3 (gc k3 (Ak h3 (gc k2 (gc (bG h2) (gc (aS h0) (gc (bN h1) (gc (aS h0) (Ak (bN h1) (Aq (aS h0) (gc k1 (Ak (aS h0) gn))))))))))))))))
theorem bYt(h2:x1=6)(h3:(within x0 1 9999)=true)(h4:(within x1 0 9)=false):FV Tp 107 [(.p (.agg [(aB x0),(aB x1),(aB x2),(aB x3),(aB x4),(aB x5)]))] base (pB false) []:=have k1:=fk 1 (eR x1) rfl;have k2:=fk 1 (cD x0 1 9999) rfl;have k3:=fk 1 (cD x1 0 9) rfl;FV.fi func107 [bF,bF,bF,k1.o,bF,bF,bT,bT,bT,bF,bT,bF,bF,k2.o,bT,bT,bT,k3.o,bT,bF,bF,bF,bF] (Au h4 (gc h3 (gc k3 (Ak h3 (gc k2 (gc (bG h2) (gc (aS h0) (gc (bN h1) (gc (aS h0) (Ak (bN h1) (Aq (aS h0) (gc k1 (Ak (aS h0) gn)))))))))))))
theorem bYu(h2:x1=6)(h3:(within x0 1 9999)=false):FV Tp 107 [(.p (.agg [(aB x0),(aB x1),(aB x2),(aB x3),(aB x4),(aB x5)]))] base (pB false) []:=have k1:=fk 1 (eR x1) rfl;have k2:=fk 1 (cD x0 1 9999) rfl;FV.fi func107 [bF,bF,bF,k1.o,bF,bF,bT,bT,bT,bF,bT,bF,bF,k2.o,bF,bF,bF,bF] (Au h3 (gc k2 (gc (bG h2) (gc (aS h0) (gc (bN h1) (gc (aS h0) (Ak (bN h1) (Aq (aS h0) (gc k1 (Ak (aS h0) gn))))))))))
end
section
variable(h0:x1≠3)(h1:(decide (x1≤4))=true)(h2:(within x0 1 9999)=true)
include h0 h1 h2
theorem bYv(h3:(within x1 0 9)=true)(h4:(within x2 0 10000)=true)(A6:r0=(within x4 0 36000)):FV Tp 107 [(.p (.agg [(aB x0),(aB x1),(aB x2),(aB x3),(aB x4),(aB x5)]))] base (pB r0) []:=by
 subst A6;have k1:=fk 1 (eR x1) rfl;have k2:=fk 1 (cD x0 1 9999) rfl;have k3:=fk 1 (cD x1 0 9) rfl;have k4:=fk 1 (cD x2 0 10000) rfl;have k5:=fk 1 (cD x4 0 36000) rfl;exact FV.fi func107 ([bF,bF,bF,k1.o]++rF 8++[k2.o,bT,bT,bT,k3.o,bT,bT,bT,bT,k4.o]++rT 5++[k5.o,bT]) (gc h4 (gc k5 (Au h4 (gc h3 (gc k4 (Ak h3 (gc h2 (gc k3 (Ak h2 (gc k2 (gc (aS h0) (gc (aR h1) (gc (aS h0) (Ak (aR h1) (Aq (aS h0) (gc k1 (Ak (aS h0) gn)))))))))))))))))
theorem bYw(h3:(within x1 0 9)=true)(h4:(within x2 0 10000)=false):FV Tp 107 [(.p (.agg [(aB x0),(aB x1),(aB x2),(aB x3),(aB x4),(aB x5)]))] base (pB false) []:=have k1:=fk 1 (eR x1) rfl;have k2:=fk 1 (cD x0 1 9999) rfl;have k3:=fk 1 (cD x1 0 9) rfl;have k4:=fk 1 (cD x2 0 10000) rfl;FV.fi func107 ([bF,bF,bF,k1.o]++rF 8++[k2.o,bT,bT,bT,k3.o,bT,bT,bT,bT,k4.o,bT]++rF 5) (B0 h4 (gc h3 (gc k4 (Ak h3 (gc h2 (gc k3 (Ak h2 (gc k2 (gc (aS h0) (gc (aR h1) (gc (aS h0) (Ak (aR h1) (Aq (aS h0) (gc k1 (Ak (aS h0) gn)))))))))))))))
theorem bYx(h3:(within x1 0 9)=false):FV Tp 107 [(.p (.agg [(aB x0),(aB x1),(aB x2),(aB x3),(aB x4),(aB x5)]))] base (pB false) []:=have k1:=fk 1 (eR x1) rfl;have k2:=fk 1 (cD x0 1 9999) rfl;have k3:=fk 1 (cD x1 0 9) rfl;FV.fi func107 ([bF,bF,bF,k1.o]++rF 8++[k2.o,bT,bT,bT,k3.o,bT,bF,bF,bF,bF]) (Au h3 (gc h2 (gc k3 (Ak h2 (gc k2 (gc (aS h0) (gc (aR h1) (gc (aS h0) (Ak (aR h1) (Aq (aS h0) (gc k1 (Ak (aS h0) gn))))))))))))
end
theorem bYy(h0:x1≠3)(h1:(decide (x1≤4))=true)(h2:(within x0 1 9999)=false):FV Tp 107 [(.p (.agg [(aB x0),(aB x1),(aB x2),(aB x3),(aB x4),(aB x5)]))] base (pB false) []:=have k1:=fk 1 (eR x1) rfl;have k2:=fk 1 (cD x0 1 9999) rfl;FV.fi func107 ([bF,bF,bF,k1.o]++rF 8++[k2.o,bF,bF,bF,bF]) (Au h2 (gc k2 (gc (aS h0) (gc (aR h1) (gc (aS h0) (Ak (aR h1) (Aq (aS h0) (gc k1 (Ak (aS h0) gn)))))))))
theorem cIe(x0 x1 x2 x3 x4 x5:Int){base:Nat}:FV Tp 107 [.p (dcE x0 x1 x2 x3 x4 x5)] base (pB (dcB [x0,x1,x2,x3,x4,x5])) []:=by
 by_cases h3:x1=3
 ·have hm:nJ x1=0:=by unfold nJ;rw [if_pos (.inl h3)]
  cases Eb:within x0 1 9999 with
  | false=>rw [iF,Eb,Bool.false_and];exact cHx h3 Eb
  | true =>
  cases E4:within x1 0 9 with
  | false=>rw [iF,Eb,E4,gS,Bool.false_and];exact cHw h3 Eb E4
  | true =>
  cases Gm:within x2 0 10000 with
  | false=>rw [iF,Eb,E4,Gm,gS,gS,Bool.false_and];exact cHv h3 Eb E4 Gm
  | true =>
  rw [iF,Eb,E4,Gm,gS,gS,gS,hm];exact cHu h3 Eb E4 Gm rfl
 by_cases h4:x1≤4
 ·have hm:nJ x1=36000:=by unfold nJ;rw [if_neg (by omega)]
  have Je:decide (x1≤4)=true:=by simpa using h4
  cases Eb:within x0 1 9999 with
  | false=>rw [iF,Eb,Bool.false_and];exact bYy h3 Je Eb
  | true =>
  cases E4:within x1 0 9 with
  | false=>rw [iF,Eb,E4,gS,Bool.false_and];exact bYx h3 Je Eb E4
  | true =>
  cases Gm:within x2 0 10000 with
  | false=>rw [iF,Eb,E4,Gm,gS,gS,Bool.false_and];exact bYw h3 Je Eb E4 Gm
  | true =>
  rw [iF,Eb,E4,Gm,gS,gS,gS,hm];exact bYv h3 Je Eb E4 Gm rfl
 have Je:decide (x1≤4)=false:=by simpa using h4
 by_cases h6:x1=6
 ·have hm:nJ x1=36000:=by unfold nJ;rw [if_neg (by omega)]
  cases Eb:within x0 1 9999 with
  | false=>rw [iF,Eb,Bool.false_and];exact bYu h3 Je h6 Eb
  | true =>
  cases E4:within x1 0 9 with
  | false=>rw [iF,Eb,E4,gS,Bool.false_and];exact bYt h3 Je h6 Eb E4
  | true =>
  cases Gm:within x2 0 10000 with
  | false=>rw [iF,Eb,E4,Gm,gS,gS,Bool.false_and];exact cId h3 Je h6 Eb E4 Gm
  | true =>
  rw [iF,Eb,E4,Gm,gS,gS,gS,hm];exact cIc h3 Je h6 Eb E4 Gm rfl
 have hm:nJ x1=0:=by unfold nJ;rw [if_pos (by omega)]
 cases Eb:within x0 1 9999 with
 | false=>rw [iF,Eb,Bool.false_and];exact cIb h3 Je h6 Eb
 | true =>
 cases E4:within x1 0 9 with
 | false=>rw [iF,Eb,E4,gS,Bool.false_and];exact cIa h3 Je h6 Eb E4
 | true =>
 cases Gm:within x2 0 10000 with
 | false=>rw [iF,Eb,E4,Gm,gS,gS,Bool.false_and];exact cHz h3 Je h6 Eb E4 Gm
 | true =>
 rw [iF,Eb,E4,Gm,gS,gS,gS,hm];exact cHy h3 Je h6 Eb E4 Gm rfl

def pH(l:List Int)(i:Nat)(me:List (Value × PV))(mk:Nat):St:=⟨fr 19 [(3,(.mp 0)),(7,(.p (aF l))),(8,(pI (l.length:Int))),(9,(pI (i:Int)))],[some (.mp me mk)]⟩
theorem cNu(hl0:aD Tp 0 aGh (pH l 0 [] 0) (.exit 0) (pH l Bm (fM Ro) Ro.length)):FV Tp 108 [(.p (aF l))] base (pB false) []:=FV.fi func108 [hl0.k 8 (gI fh [0])] (gc hl0.code gn)
theorem cNv(hl0:aD Tp 0 aGh (pH l 0 [] 0) .ret (bQ (pH l Bm (fM Ro) Ro.length) [(2,(.kb true))])):FV Tp 108 [(.p (aF l))] base (pB true) []:=FV.fi func108 [hl0.k 8 (gI fh [0])] (gc hl0.code gn)
section
variable(h0:(i:Int)<(l.length:Int))(h1:l[i]? = some Aj)(h2:cR .i64 (fM m) (.int .i64 Aj))
include h0 h1 h2
theorem bSh{Ab:Bool}(h3:(eA (fM m) (.int .i64 Aj))=true)(h4:gG (fM m) (.int .i64 Aj)=some (blP Ab))(h5:Ab=true):aC Tp 0 aGh (pH l i (fM m) m.length) .ret (bQ (pH l i (fM m) m.length) [(2,(.kb true))]):=aC.fi (gI fj [0]) [bT,.x (aB Aj),bT,.x (blP Ab),bT] (gc h5 (gc h4 (gc h3 (gc h2 (gc (atm aB h1) (gc (ixn aB h1) (g0 h0)))))))
theorem bSi{m':List Int}(h3:(eA (fM m) (.int .i64 Aj))=false)(h4:gk i)(Ai:i'=(i+1))(Tf:fM m'=((fM m)++[((.int .i64 Aj),(blP true))]))(Tg:m'.length=(m.length+1)):aC Tp 0 aGh (pH l i (fM m) m.length) .normal (pH l i' (fM m') m'.length):=by
 subst Ai;rw [Tf,Tg];exact aC.fi (gI fh [0]) [bT,.x (aB Aj),bF,bF,bF] (gc h4 (gc h3 (gc h2 (gf (gc h3 (gc h2 (gc (atm aB h1) (gc (ixn aB h1) (g0 h0)))))))))
end
theorem bSj(h0:(l.length:Int)≤(i:Int)):aC Tp 0 aGh (pH l i (fM m) m.length) (.exit 0) (pH l i (fM m) m.length):=aC.fi (gI fh [0]) [bF] (gc (aK h0) gn)
def uF(sk:Lqq)(i on:Nat)(oc:List PV):St:=⟨fr 20 [(2,(.p cC)),(3,(.own 0)),(7,(.p (fS sk))),(8,(pI (sk.length:Int))),(9,(pI (i:Int)))],[some (.row 3 on oc)]⟩
theorem cIf(hl0:aD Tp 0 bBn (uF sk 0 0 []) (.exit 0) (uF sk Bm D1.length (D1.map aB))):FV Tp 109 [(.p (.agg [(aB dl),(fS sk),(fS dc)]))] base (.own base) [(base,(.row 3 D1.length (D1.map aB)))]:=FV.fi func109 [hl0.k 8 (gN fj [1] [(3,3)])] (gc hl0.code gn)
theorem bKa(h0:(i:Int)<(sk.length:Int))(h1:sk[i]? = some [Aa,Ab])(h2:uni 2 sk)(h3:[(aB Aa)].length=1*1∧o.length+1≤1000000)(h4:gk i)(Ai:i'=(i+1))(Bq:o'.length=(o.length+1))(Br:o'.map aB=((o.map aB)++[(aB Aa)])):aC Tp 0 bBn (uF sk i o.length (o.map aB)) .normal (uF sk i' o'.length (o'.map aB)):=by
 subst Ai;rw [Bq,Br];exact aC.fi (gI fj [3]) [bT,.x (.agg [(aB Aa),(aB Ab)])] (gc h4 (gc h3 (gfl h2 h1 (g0 h0))))
theorem bKb(h0:(sk.length:Int)≤(i:Int)):aC Tp 0 bBn (uF sk i o.length (o.map aB)) (.exit 0) (uF sk i o.length (o.map aB)):=aC.fi (gI fj [0]) [bF] (gc (aK h0) gn)
def uG(dc:Lqq)(i on:Nat)(oc:List PV):St:=⟨fr 20 [(2,(.p cC)),(3,(.own 0)),(7,(.p (fS dc))),(8,(pI (dc.length:Int))),(9,(pI (i:Int)))],[some (.row 3 on oc)]⟩
theorem cIg(hl0:aD Tp 0 bBo (uG dc 0 0 []) (.exit 0) (uG dc Bm D1.length (D1.map aB))):FV Tp 110 [(.p (.agg [(aB dl),(fS sk),(fS dc)]))] base (.own base) [(base,(.row 3 D1.length (D1.map aB)))]:=FV.fi func110 [hl0.k 8 (gN fj [1] [(3,3)])] (gc hl0.code gn)
theorem bKc{Ac Ad Ae Af:Int}(h0:(i:Int)<(dc.length:Int))(h1:dc[i]? = some [Aa,Ab,Ac,Ad,Ae,Af])(h2:uni 6 dc)(h3:[(aB Aa)].length=1*1∧o.length+1≤1000000)(h4:gk i)(Ai:i'=(i+1))(Bq:o'.length=(o.length+1))(Br:o'.map aB=((o.map aB)++[(aB Aa)])):aC Tp 0 bBo (uG dc i o.length (o.map aB)) .normal (uG dc i' o'.length (o'.map aB)):=by
 subst Ai;rw [Bq,Br];exact aC.fi (gI fj [3]) [bT,.x (.agg [(aB Aa),(aB Ab),(aB Ac),(aB Ad),(aB Ae),(aB Af)])] (gc h4 (gc h3 (gfl h2 h1 (g0 h0))))
theorem bKd(h0:(dc.length:Int)≤(i:Int)):aC Tp 0 bBo (uG dc i o.length (o.map aB)) (.exit 0) (uG dc i o.length (o.map aB)):=aC.fi (gI fj [0]) [bF] (gc (aK h0) gn)
theorem bBp(l:List Int)(hl:l.length≤1000)(hb:∀ x∈l,-1000000≤x∧x≤1000000):∀ (d i:Nat),i+d=l.length→(l.take i).Nodup →
  (l.Nodup∧aD Tp 0 aGh (pH l i (fM (l.take i)) (l.take i).length) (.exit 0) (pH l l.length (fM l) l.length))∨(¬ l.Nodup∧∃ i' m',aD Tp 0 aGh (pH l i (fM (l.take i)) (l.take i).length) .ret (bQ (pH l i' (fM m') m'.length) [(2,.kb true)]))
 | 0,i,h,hn=>by
  obtain rfl:i=l.length:=by omega
  rw [List.take_length] at hn ⊢
  exact .inl ⟨hn,.exit (bSj (by omega)) (by simp)⟩
 | d+1,i,h,hn=>by
  have hi:i<l.length:=by omega
  have hx:l[i]? = some l[i]:=Ay hi;have et:l.take (i+1)=l.take i++[l[i]]:=by rw [List.take_add_one,hx];rfl
  have hk:=aXg hn (fun x hx=>hb x (List.mem_of_mem_take hx)) (hb _ (fP hi))
  by_cases hm:l[i]∈l.take i
  ·refine .inr ⟨fun hnd => ?_,i,l.take i,.exit (bSh (by omega) hx hk (bSl hm) (bKe hm) rfl) (by simp)⟩
   obtain ⟨j,hj,e⟩:=List.mem_iff_getElem.1 hm;rw [oD] at hj
   rw [List.getElem_take] at e
   exact List.pairwise_iff_getElem.1 hnd j i (by omega) hi (by omega) e
  ·have Sq:(l.take (i+1)).Nodup:=by
    rw [et,List.nodup_append];exact ⟨hn,by simp,fun a ha b hb e=>hm (by simp at hb;rw [← hb,← e];exact ha)⟩
   have hstep:=bSi (m:=l.take i) (m':=l.take (i+1)) (i':=i+1) (by omega) hx hk (bSk hm) (aI (by omega)) rfl (by rw [et,aXf]) (by simp;omega)
   rcases bBp l hl hb d (i+1) (by omega) Sq with ⟨q1,q2⟩ | ⟨q1,i',m',q2⟩
   ·exact .inl ⟨q1,.step hstep q2⟩
   ·exact .inr ⟨q1,i',m',.step hstep q2⟩
theorem zD(l:List Int)(hl:l.length≤1000)(hb:∀ x∈l,-1000000≤x∧x≤1000000){base:Nat}:FV Tp 108 [.p (aF l)] base (pB (!decide l.Nodup)) []:=by
 rcases bBp l hl hb l.length 0 (by omega) (by simp) with ⟨q1,q2⟩ | ⟨q1,i',m',q2⟩
 ·rw [decide_eq_true q1];exact cNu q2
 ·rw [decide_eq_false q1];exact cNv q2
theorem oH(dl:Int)(sk dc:Lqq)(h:uni 2 sk∧sk.length≤1000){base:Nat}:FV Tp 109 [.p (.agg [aB dl,.sl sk.length (sk.flatten.map aB),.sl dc.length (dc.flatten.map aB)])] base (.own base) [(base,.row 3 (aP sk 0).length ((aP sk 0).map aB))]:=by
 obtain ⟨hu,hl⟩:=h;have L:=aD.count (P:=Tp) (k:=0) (b:=bBn) (e := .exit 0) (R:=uF sk sk.length (aP sk 0).length ((aP sk 0).map aB)) sk.length (fun i=>uF sk i (aP (sk.take i) 0).length ((aP (sk.take i) 0).map aB))
  (fun i Ct=>by
   obtain ⟨a,b,hx⟩:=at2 hu Ct;have et:sk.take (i+1)=sk.take i++[[a,b]]:=by rw [List.take_add_one,hx];rfl
   exact bKa (o:=aP (sk.take i) 0) (o':=aP (sk.take (i+1)) 0) (by omega) hx hu ⟨rfl,by simp [aP];omega⟩ (aI (by omega)) rfl (by simp [aP];omega) (by rw [et];simp [aP]))
  (by rw [List.take_length];exact bKb (by omega)) (by simp)
 exact cIf L
theorem aNg(dl:Int)(sk dc:Lqq)(h:uni 6 dc∧dc.length≤1000){base:Nat}:FV Tp 110 [.p (.agg [aB dl,.sl sk.length (sk.flatten.map aB),.sl dc.length (dc.flatten.map aB)])] base (.own base) [(base,.row 3 (aP dc 0).length ((aP dc 0).map aB))]:=by
 obtain ⟨hu,hl⟩:=h;have L:=aD.count (P:=Tp) (k:=0) (b:=bBo) (e := .exit 0) (R:=uG dc dc.length (aP dc 0).length ((aP dc 0).map aB)) dc.length (fun i=>uG dc i (aP (dc.take i) 0).length ((aP (dc.take i) 0).map aB))
  (fun i Ct=>by
   obtain ⟨a,b,c,d,e,g,hx⟩:=Td hu Ct;have et:dc.take (i+1)=dc.take i++[[a,b,c,d,e,g]]:=by rw [List.take_add_one,hx];rfl
   exact bKc (o:=aP (dc.take i) 0) (o':=aP (dc.take (i+1)) 0) (by omega) hx hu ⟨rfl,by simp [aP];omega⟩ (aI (by omega)) rfl (by simp [aP];omega) (by rw [et];simp [aP]))
  (by rw [List.take_length];exact bKd (by omega)) (by simp)
 exact cIg L
end
section
variable {r0:Bool}{v dl x0 x1 x2 x3 x4 x5 Aj Aa Ab Ac Ad Ae Af:Int}{l dc sk:Lqq}{i i' Bm base:Nat}
variable {dl:Int}{sk dc:Lqq}

noncomputable abbrev lN:Code:=sub (cd Tryz.f77) [1,0,1,0,0]
noncomputable abbrev aKo:Code:=sub (cd Tryz.f126) [1,0,1,0,0]
noncomputable abbrev aKp:Code:=sub (cd Tryz.f190) [1,0,1,0,0]
def jN(l:List Int)(v:Int)(i:Nat):St:=⟨fr 19 [(0,(.p (aF l))),(1,(pI v)),(7,(pI (l.length:Int))),(8,(pI (i:Int)))],[]⟩
theorem bSe{l:List Int}(hl0:aD Tp 0 aKo (jN l v 0) (.exit 0) (jN l v Bm)):FV Tp 126 [(.p (aF l)),(pI v)] base (pI (-1)) []:=FV.fi func126 [hl0.k 6 (gZ ga)] (gc hl0.code gn)
theorem bSf{l:List Int}(hl0:aD Tp 0 aKo (jN l v 0) .ret (bQ (jN l v Bm) [(4,(pI (Bm:Int)))])):FV Tp 126 [(.p (aF l)),(pI v)] base (pI (Bm:Int)) []:=FV.fi func126 [hl0.k 6 (gZ ga)] (gc hl0.code gn)
section
variable{l:List Int}(h0:(i:Int)<(l.length:Int))(h1:l[i]? = some Aj)
include h0 h1
theorem aKq(h2:v=Aj):aC Tp 0 aKo (jN l v i) .ret (bQ (jN l v i) [(4,(pI (i:Int)))]):=aC.fi (gZ fm) [bT,.x (aB Aj),bT] (gc (bX h2) (gc (atm aB h1) (gc (ixn aB h1) (g0 h0))))
theorem aKr(h2:v≠Aj)(h3:gk i)(Ai:i'=(i+1)):aC Tp 0 aKo (jN l v i) .normal (jN l v i'):=by
 subst Ai;exact aC.fi (gZ ga) [bT,.x (aB Aj),bF] (gc h3 (gc (aS h2) (gc (atm aB h1) (gc (ixn aB h1) (g0 h0)))))
end
theorem aKs{l:List Int}(h0:(l.length:Int)≤(i:Int)):aC Tp 0 aKo (jN l v i) (.exit 0) (jN l v i):=aC.fi (gZ ga) [bF] (gc (aK h0) gn)
theorem aAq(l:List Int)(v:Int)(hl:l.length≤1000){base:Nat}:FV Tp 126 [.p (aF l),.p (aB v)] base (pI (bJ (fun x=>decide (v=x)) l)) []:=by
 rcases aD.find (P:=Tp) (k:=0) (b:=aKo) (fun i=>jN l v i) (fun i _=>bQ (jN l v i) [(4,.p (aB (i:Int)))]) (jN l v l.length) .ret (.exit 0) (by simp) (by simp) (fun x=>decide (v=x)) l
  (fun i x hx hp=>aKr (by have:=aM hx;omega) hx (by simpa using hp) (aI (by have:=aM hx;omega)) rfl)
  (fun i x hx hp=>aKq (by have:=aM hx;omega) hx (by simpa using hp))
  (aKs (l:=l) (i:=l.length) (by omega)) with ⟨i,x,h1,h2,h3,h4⟩ | ⟨h1,h2,h3⟩
 ·rw [eF h2];exact bSf h4
 ·rw [gC h1];exact bSe h3
theorem cGv{l:List Int}(h0:l.length≤1000)(A6:r0=(decide ((bJ (fun x=>decide (v=x)) l) ≥ 0))):FV Tp 52 [(.p (aF l)),(pI v)] base (pB r0) []:=by
 subst A6;have k1:=fk 0 (aAq l v h0) rfl;exact FV.fi func52 [k1.o] (gc k1 gn)
theorem zC(l:List Int)(v:Int):decide (bJ (fun x=>decide (v=x)) l ≥ 0)=l.contains v:=by
 rw [mP]
 induction l with
 | nil=>rfl
 | cons a l ih=>rw [List.any_cons,ih,List.contains_cons];rfl
theorem sH(l:List Int)(v:Int)(hl:l.length≤1000){base:Nat}:FV Tp 52 [.p (aF l),.p (aB v)] base (pB (l.contains v)) []:=cGv hl (zC l v).symm
theorem cGw(h0:(decide (x1≤4))=true)(A6:r0=(x5 == 0)):FV Tp 113 [(.p (.agg [(aB x0),(aB x1),(aB x2),(aB x3),(aB x4),(aB x5)]))] base (pB r0) []:=by
 subst A6;have k1:=fk 1 (eR x1) rfl;exact FV.fi func113 [k1.o,bT] (gc h0 (gc k1 gn))
theorem cGx(h0:(decide (x1≤4))=false)(h1:inR (x0-1))(A6:r0=(within x5 1 (x0-1))):FV Tp 113 [(.p (.agg [(aB x0),(aB x1),(aB x2),(aB x3),(aB x4),(aB x5)]))] base (pB r0) []:=by
 subst A6;have k1:=fk 1 (eR x1) rfl;have k2:=fk 1 (cD x5 1 (x0-1)) rfl;exact FV.fi func113 [k1.o,bF,k2.o] (gc k2 (gc h1 (gc h0 (gc k1 gn))))
def orB(x:List Int):Bool:=if x.getD 1 0≤4 then x.getD 5 0 == 0 else within (x.getD 5 0) 1 (x.getD 0 0-1)
theorem cGy(a b c d e f:Int)(h:inR (a-1)){base:Nat}:FV Tp 113 [.p (dcE a b c d e f)] base (pB (orB [a,b,c,d,e,f])) []:=by
 by_cases hb:b≤4
 ·exact cGw (by simpa using hb) (show (if b≤4 then f == 0 else within f 1 (a-1))=_ by rw [if_pos hb])
 ·exact cGx (by simpa using hb) h (show (if b≤4 then f == 0 else within f 1 (a-1))=_ by rw [if_neg hb])
theorem cGz(h0:(decide (x1≤4))=true)(h1:uni 2 sk∧sk.length≤1000)(h2:(aP sk 0).length≤1000)(A6:r0=((aP sk 0).contains x3)):FV Tp 111 [(.p (.agg [(aB x0),(aB x1),(aB x2),(aB x3),(aB x4),(aB x5)])),(.rp [(aB dl),(fS sk),(fS dc)] 0)] base (pB r0) []:=by
 subst A6;have k1:=fk 1 (eR x1) rfl;have k2:=fk 1 (oH dl sk dc h1) rfl;exact FV.fi func111 [k1.o,bT,.x (.agg [(aB dl),(fS sk),(fS dc)]),k2.o,.c (pB ((aP sk 0).contains x3)) []] (gt (FC Tp 52 [(.own 1),(pI x3)] [(1,(.row 3 ((aP sk 0).length) ((aP sk 0).map aB)))] 9 (pB ((aP sk 0).contains x3)) []) (fv (sH (aP sk 0) x3 h2)) (gc k2 (gr (.agg [(aB dl),(fS sk),(fS dc)]) (gt (0+3≤[(aB dl),(fS sk),(fS dc)].length) (by first | decide | simp) (gc h0 (gc k1 gn))))))
theorem cHa(h0:(decide (x1≤4))=false)(A6:r0=(x3 == 0)):FV Tp 111 [(.p (.agg [(aB x0),(aB x1),(aB x2),(aB x3),(aB x4),(aB x5)])),(.rp [(aB dl),(fS sk),(fS dc)] 0)] base (pB r0) []:=by
 subst A6;have k1:=fk 1 (eR x1) rfl;exact FV.fi func111 [k1.o,bF] (gc h0 (gc k1 gn))
def inB(sk:Lqq)(x:List Int):Bool:=if x.getD 1 0≤4 then (aP sk 0).contains (x.getD 3 0) else x.getD 3 0 == 0
abbrev bC(dl:Int)(sk dc:Lqq):List PV:=[aB dl,.sl sk.length (sk.flatten.map aB),.sl dc.length (dc.flatten.map aB)]
theorem cHb(a b c d e f dl:Int)(sk dc:Lqq)(h:uni 2 sk∧sk.length≤1000){base:Nat}:FV Tp 111 [.p (dcE a b c d e f),.rp (bC dl sk dc) 0] base (pB (inB sk [a,b,c,d,e,f])) []:=by
 by_cases hb:b≤4
 ·exact cGz (by simpa using hb) h (by simpa [aP] using h.2) (show (if b≤4 then (aP sk 0).contains d else d == 0)=_ by rw [if_pos hb])
 ·exact cHa (by simpa using hb) (show (if b≤4 then (aP sk 0).contains d else d == 0)=_ by rw [if_neg hb])
theorem bXv(A6:r0=(!(skB [x0,x1]))):FMM Tp 164 [(.p (.agg [(aB x0),(aB x1)])),(.ptr 0 0)] [some (.box 153 [(.fn 105 [] [])])] (pB r0) [some (.box 153 [(.fn 105 [] [])])]:=by
 subst A6;have k1:=fk 2 (cHt x0 x1) rfl;exact FMM.fi 1 gE func164 [k1.o] (gc k1 gn)
theorem bBj(x0 x1:Int):FMM Tp 164 [(.p (.agg [(aB x0),(aB x1)])),.ptr 0 0] [some (.box 153 [(.fn 105 [] [])])] (pB (!(skB [x0,x1]))) [some (.box 153 [(.fn 105 [] [])])]:=bXv rfl
def iY(l:Lqq)(i:Nat):St:=⟨fr 19 [(0,(.p (fS l))),(1,(.fn 164 [] [(.ptr 0 0)])),(7,(pI (l.length:Int))),(8,(pI (i:Int)))],[some (.box 153 [(.fn 105 [] [])])]⟩
theorem bXw(hl0:aD Tp 1 aKp (iY l 0) (.exit 0) (iY l Bm)):FMM Tp 190 [(.p (fS l)),(.fn 164 [] [(.ptr 0 0)])] [some (.box 153 [(.fn 105 [] [])])] (pI (-1)) [some (.box 153 [(.fn 105 [] [])])]:=FMM.fi 1 gE func190 [hl0.k 6 (gZ ga)] (gc hl0.code gn)
theorem bXx(hl0:aD Tp 1 aKp (iY l 0) .ret (bQ (iY l Bm) [(4,(pI (Bm:Int)))])):FMM Tp 190 [(.p (fS l)),(.fn 164 [] [(.ptr 0 0)])] [some (.box 153 [(.fn 105 [] [])])] (pI (Bm:Int)) [some (.box 153 [(.fn 105 [] [])])]:=FMM.fi 1 gE func190 [hl0.k 6 (gZ ga)] (gc hl0.code gn)
section
variable(h0:(i:Int)<(l.length:Int))(h1:l[i]? = some [Aa,Ab])(h2:uni 2 l)
include h0 h1 h2
theorem aWs(h3:(skB [Aa,Ab])=false):aC Tp 1 aKp (iY l i) .ret (bQ (iY l i) [(4,(pI (i:Int)))]):=have k1:=mq [0] 1 (bBj Aa Ab);aC.fi (gZ fm) [bT,.x (.agg [(aB Aa),(aB Ab)]),k1.o,bT] (gc (bN h3) (gc k1 (gfl h2 h1 (g0 h0))))
theorem aWt(h3:(skB [Aa,Ab])=true)(h4:gk i)(Ai:i'=(i+1)):aC Tp 1 aKp (iY l i) .normal (iY l i'):=by
 subst Ai;have k1:=mq [0] 1 (bBj Aa Ab);exact aC.fi (gZ ga) [bT,.x (.agg [(aB Aa),(aB Ab)]),k1.o,bF] (gc h4 (gc (aR h3) (gc k1 (gfl h2 h1 (g0 h0)))))
end
theorem aWu(h0:(l.length:Int)≤(i:Int)):aC Tp 1 aKp (iY l i) (.exit 0) (iY l i):=aC.fi (gZ ga) [bF] (gc (aK h0) gn)
theorem bXy(l:Lqq)(hl:l.length≤1000)(hu:uni 2 l):FMM Tp 190 [.p (fS l),(.fn 164 [] [(.ptr 0 0)])] [some (.box 153 [(.fn 105 [] [])])] (pI (bJ (fun x => !(skB x)) l)) [some (.box 153 [(.fn 105 [] [])])]:=by
 rcases aD.find (P:=Tp) (k:=1) (b:=aKp) (fun i=>iY l i) (fun i _=>bQ (iY l i) [(4,.p (aB (i:Int)))]) (iY l l.length) .ret (.exit 0) (by simp) (by simp) (fun x => !(skB x)) l
  (fun i x hx hp=>by obtain ⟨a,b,rfl⟩:=len2 (hu _ (Bl hx));exact aWt (by have:=aM hx;omega) hx hu (by simpa using hp) (aI (by have:=aM hx;omega)) rfl)
  (fun i x hx hp=>by obtain ⟨a,b,rfl⟩:=len2 (hu _ (Bl hx));exact aWs (by have:=aM hx;omega) hx hu (by simpa using hp))
  (aWu (l:=l) (i:=l.length) (by omega)) with ⟨i,x,h1,h2,h3,h4⟩ | ⟨h1,h2,h3⟩
 ·rw [eF h2];exact bXx h4
 ·rw [gC h1];exact bXw h3
theorem bXz(h0:l.length≤1000)(h1:uni 2 l)(A6:r0=(decide ((bJ (fun x => !(skB x)) l) ≥ 0))):FMM Tp 163 [(.p (fS l)),(.fn 164 [] [(.ptr 0 0)])] [some (.box 153 [(.fn 105 [] [])])] (pB r0) [some (.box 153 [(.fn 105 [] [])])]:=by
 subst A6;have k1:=mq [0] 1 (bXy l h0 h1);exact FMM.fi 1 gE func163 [k1.o] (gc k1 gn)
theorem bYa(l:Lqq)(hl:l.length≤1000)(hu:uni 2 l):FMM Tp 163 [.p (fS l),(.fn 164 [] [(.ptr 0 0)])] [some (.box 153 [(.fn 105 [] [])])] (pB (l.any (fun x => !(skB x)))) [some (.box 153 [(.fn 105 [] [])])]:=bXz hl hu (mP _ _).symm
theorem cHc(h0:l.length≤1000)(h1:uni 2 l)(A6:r0=(!(l.any (fun x => !(skB x))))):FV Tp 104 [(.p (fS l)),(.fn 105 [] [])] base (pB r0) []:=by
 subst A6;have k1:=mq [0] 1 (bYa l h0 h1);exact FV.fi func104 [k1.o] (gc k1 gn)
theorem xP(l:Lqq)(hl:l.length≤1000)(hu:uni 2 l){base:Nat}:FV Tp 104 [.p (fS l),(.fn 105 [] [])] base (pB (l.all (skB))) []:=cHc hl hu (by rw [List.all_eq_not_any_not])
theorem bYb(A6:r0=(!(dcB [x0,x1,x2,x3,x4,x5]))):FMM Tp 166 [(.p (.agg [(aB x0),(aB x1),(aB x2),(aB x3),(aB x4),(aB x5)])),(.ptr 0 0)] [some (.box 124 [(.fn 107 [] [])])] (pB r0) [some (.box 124 [(.fn 107 [] [])])]:=by
 subst A6;have k1:=fk 2 (cIe x0 x1 x2 x3 x4 x5) rfl;exact FMM.fi 1 gE func166 [k1.o] (gc k1 gn)
theorem bBk(x0 x1 x2 x3 x4 x5:Int):FMM Tp 166 [(.p (.agg [(aB x0),(aB x1),(aB x2),(aB x3),(aB x4),(aB x5)])),.ptr 0 0] [some (.box 124 [(.fn 107 [] [])])] (pB (!(dcB [x0,x1,x2,x3,x4,x5]))) [some (.box 124 [(.fn 107 [] [])])]:=bYb rfl
def iZ(l:Lqq)(i:Nat):St:=⟨fr 19 [(0,(.p (fS l))),(1,(.fn 166 [] [(.ptr 0 0)])),(7,(pI (l.length:Int))),(8,(pI (i:Int)))],[some (.box 124 [(.fn 107 [] [])])]⟩
theorem bYc(hl0:aD Tp 1 lN (iZ l 0) (.exit 0) (iZ l Bm)):FMM Tp 77 [(.p (fS l)),(.fn 166 [] [(.ptr 0 0)])] [some (.box 124 [(.fn 107 [] [])])] (pI (-1)) [some (.box 124 [(.fn 107 [] [])])]:=FMM.fi 1 gE func77 [hl0.k 6 (gZ ga)] (gc hl0.code gn)
theorem bYd(hl0:aD Tp 1 lN (iZ l 0) .ret (bQ (iZ l Bm) [(4,(pI (Bm:Int)))])):FMM Tp 77 [(.p (fS l)),(.fn 166 [] [(.ptr 0 0)])] [some (.box 124 [(.fn 107 [] [])])] (pI (Bm:Int)) [some (.box 124 [(.fn 107 [] [])])]:=FMM.fi 1 gE func77 [hl0.k 6 (gZ ga)] (gc hl0.code gn)
section
variable(h0:(i:Int)<(l.length:Int))(h1:l[i]? = some [Aa,Ab,Ac,Ad,Ae,Af])(h2:uni 6 l)
include h0 h1 h2
theorem aWv(h3:(dcB [Aa,Ab,Ac,Ad,Ae,Af])=false):aC Tp 1 lN (iZ l i) .ret (bQ (iZ l i) [(4,(pI (i:Int)))]):=have k1:=mq [0] 1 (bBk Aa Ab Ac Ad Ae Af);aC.fi (gZ fm) [bT,.x (.agg [(aB Aa),(aB Ab),(aB Ac),(aB Ad),(aB Ae),(aB Af)]),k1.o,bT] (gc (bN h3) (gc k1 (gfl h2 h1 (g0 h0))))
theorem aWw(h3:(dcB [Aa,Ab,Ac,Ad,Ae,Af])=true)(h4:gk i)(Ai:i'=(i+1)):aC Tp 1 lN (iZ l i) .normal (iZ l i'):=by
 subst Ai;have k1:=mq [0] 1 (bBk Aa Ab Ac Ad Ae Af);exact aC.fi (gZ ga) [bT,.x (.agg [(aB Aa),(aB Ab),(aB Ac),(aB Ad),(aB Ae),(aB Af)]),k1.o,bF] (gc h4 (gc (aR h3) (gc k1 (gfl h2 h1 (g0 h0)))))
end
theorem aWx(h0:(l.length:Int)≤(i:Int)):aC Tp 1 lN (iZ l i) (.exit 0) (iZ l i):=aC.fi (gZ ga) [bF] (gc (aK h0) gn)
theorem bYe(l:Lqq)(hl:l.length≤1000)(hu:uni 6 l):FMM Tp 77 [.p (fS l),(.fn 166 [] [(.ptr 0 0)])] [some (.box 124 [(.fn 107 [] [])])] (pI (bJ (fun x => !(dcB x)) l)) [some (.box 124 [(.fn 107 [] [])])]:=by
 rcases aD.find (P:=Tp) (k:=1) (b:=lN) (fun i=>iZ l i) (fun i _=>bQ (iZ l i) [(4,.p (aB (i:Int)))]) (iZ l l.length) .ret (.exit 0) (by simp) (by simp) (fun x => !(dcB x)) l
  (fun i x hx hp=>by obtain ⟨a,b,c,d,e,f,rfl⟩:=A7 (hu _ (Bl hx));exact aWw (by have:=aM hx;omega) hx hu (by simpa using hp) (aI (by have:=aM hx;omega)) rfl)
  (fun i x hx hp=>by obtain ⟨a,b,c,d,e,f,rfl⟩:=A7 (hu _ (Bl hx));exact aWv (by have:=aM hx;omega) hx hu (by simpa using hp))
  (aWx (l:=l) (i:=l.length) (by omega)) with ⟨i,x,h1,h2,h3,h4⟩ | ⟨h1,h2,h3⟩
 ·rw [eF h2];exact bYd h4
 ·rw [gC h1];exact bYc h3
theorem bYf(h0:l.length≤1000)(h1:uni 6 l)(A6:r0=(decide ((bJ (fun x => !(dcB x)) l) ≥ 0))):FMM Tp 165 [(.p (fS l)),(.fn 166 [] [(.ptr 0 0)])] [some (.box 124 [(.fn 107 [] [])])] (pB r0) [some (.box 124 [(.fn 107 [] [])])]:=by
 subst A6;have k1:=mq [0] 1 (bYe l h0 h1);exact FMM.fi 1 gE func165 [k1.o] (gc k1 gn)
theorem bYg(l:Lqq)(hl:l.length≤1000)(hu:uni 6 l):FMM Tp 165 [.p (fS l),(.fn 166 [] [(.ptr 0 0)])] [some (.box 124 [(.fn 107 [] [])])] (pB (l.any (fun x => !(dcB x)))) [some (.box 124 [(.fn 107 [] [])])]:=bYf hl hu (mP _ _).symm
theorem cHd(h0:l.length≤1000)(h1:uni 6 l)(A6:r0=(!(l.any (fun x => !(dcB x))))):FV Tp 106 [(.p (fS l)),(.fn 107 [] [])] base (pB r0) []:=by
 subst A6;have k1:=mq [0] 1 (bYg l h0 h1);exact FV.fi func106 [k1.o] (gc k1 gn)
theorem aAr(l:Lqq)(hl:l.length≤1000)(hu:uni 6 l){base:Nat}:FV Tp 106 [.p (fS l),(.fn 107 [] [])] base (pB (l.all (dcB))) []:=cHd hl hu (by rw [List.all_eq_not_any_not])
theorem bYh(h0:inR (x0-1))(A6:r0=(!(orB [x0,x1,x2,x3,x4,x5]))):FMM Tp 166 [(.p (.agg [(aB x0),(aB x1),(aB x2),(aB x3),(aB x4),(aB x5)])),(.ptr 0 0)] [some (.box 124 [(.fn 113 [] [])])] (pB r0) [some (.box 124 [(.fn 113 [] [])])]:=by
 subst A6;have k1:=fk 2 (cGy x0 x1 x2 x3 x4 x5 h0) rfl;exact FMM.fi 1 gE func166 [k1.o] (gc k1 gn)
theorem bBl(x0 x1 x2 x3 x4 x5:Int)(he:inR ([x0,x1,x2,x3,x4,x5].getD 0 0-1)):FMM Tp 166 [(.p (.agg [(aB x0),(aB x1),(aB x2),(aB x3),(aB x4),(aB x5)])),.ptr 0 0] [some (.box 124 [(.fn 113 [] [])])] (pB (!(orB [x0,x1,x2,x3,x4,x5]))) [some (.box 124 [(.fn 113 [] [])])]:=bYh he rfl
def jA(l:Lqq)(i:Nat):St:=⟨fr 19 [(0,(.p (fS l))),(1,(.fn 166 [] [(.ptr 0 0)])),(7,(pI (l.length:Int))),(8,(pI (i:Int)))],[some (.box 124 [(.fn 113 [] [])])]⟩
theorem bYi(hl0:aD Tp 1 lN (jA l 0) (.exit 0) (jA l Bm)):FMM Tp 77 [(.p (fS l)),(.fn 166 [] [(.ptr 0 0)])] [some (.box 124 [(.fn 113 [] [])])] (pI (-1)) [some (.box 124 [(.fn 113 [] [])])]:=FMM.fi 1 gE func77 [hl0.k 6 (gZ ga)] (gc hl0.code gn)
theorem bYj(hl0:aD Tp 1 lN (jA l 0) .ret (bQ (jA l Bm) [(4,(pI (Bm:Int)))])):FMM Tp 77 [(.p (fS l)),(.fn 166 [] [(.ptr 0 0)])] [some (.box 124 [(.fn 113 [] [])])] (pI (Bm:Int)) [some (.box 124 [(.fn 113 [] [])])]:=FMM.fi 1 gE func77 [hl0.k 6 (gZ ga)] (gc hl0.code gn)
section
variable(h0:(i:Int)<(l.length:Int))(h1:l[i]? = some [Aa,Ab,Ac,Ad,Ae,Af])(h2:uni 6 l)(h3:inR ([Aa,Ab,Ac,Ad,Ae,Af].getD 0 0-1))
include h0 h1 h2 h3
theorem aWy(h4:(orB [Aa,Ab,Ac,Ad,Ae,Af])=false):aC Tp 1 lN (jA l i) .ret (bQ (jA l i) [(4,(pI (i:Int)))]):=have k1:=mq [0] 1 (bBl Aa Ab Ac Ad Ae Af h3);aC.fi (gZ fm) [bT,.x (.agg [(aB Aa),(aB Ab),(aB Ac),(aB Ad),(aB Ae),(aB Af)]),k1.o,bT] (gc (bN h4) (gc k1 (gfl h2 h1 (g0 h0))))
theorem aWz(h4:(orB [Aa,Ab,Ac,Ad,Ae,Af])=true)(h5:gk i)(Ai:i'=(i+1)):aC Tp 1 lN (jA l i) .normal (jA l i'):=by
 subst Ai;have k1:=mq [0] 1 (bBl Aa Ab Ac Ad Ae Af h3);exact aC.fi (gZ ga) [bT,.x (.agg [(aB Aa),(aB Ab),(aB Ac),(aB Ad),(aB Ae),(aB Af)]),k1.o,bF] (gc h5 (gc (aR h4) (gc k1 (gfl h2 h1 (g0 h0)))))
end
theorem aXa(h0:(l.length:Int)≤(i:Int)):aC Tp 1 lN (jA l i) (.exit 0) (jA l i):=aC.fi (gZ ga) [bF] (gc (aK h0) gn)
theorem bYk(l:Lqq)(hl:l.length≤1000)(hu:uni 6 l)(he:∀ x∈l,inR (x.getD 0 0-1)):FMM Tp 77 [.p (fS l),(.fn 166 [] [(.ptr 0 0)])] [some (.box 124 [(.fn 113 [] [])])] (pI (bJ (fun x => !(orB x)) l)) [some (.box 124 [(.fn 113 [] [])])]:=by
 rcases aD.find (P:=Tp) (k:=1) (b:=lN) (fun i=>jA l i) (fun i _=>bQ (jA l i) [(4,.p (aB (i:Int)))]) (jA l l.length) .ret (.exit 0) (by simp) (by simp) (fun x => !(orB x)) l
  (fun i x hx hp=>by obtain ⟨a,b,c,d,e,f,rfl⟩:=A7 (hu _ (Bl hx));exact aWz (by have:=aM hx;omega) hx hu (he _ (Bl hx)) (by simpa using hp) (aI (by have:=aM hx;omega)) rfl)
  (fun i x hx hp=>by obtain ⟨a,b,c,d,e,f,rfl⟩:=A7 (hu _ (Bl hx));exact aWy (by have:=aM hx;omega) hx hu (he _ (Bl hx)) (by simpa using hp))
  (aXa (l:=l) (i:=l.length) (by omega)) with ⟨i,x,h1,h2,h3,h4⟩ | ⟨h1,h2,h3⟩
 ·rw [eF h2];exact bYj h4
 ·rw [gC h1];exact bYi h3
theorem bYl(h0:l.length≤1000)(h1:uni 6 l)(h2:∀ x∈l,inR (x.getD 0 0-1))(A6:r0=(decide ((bJ (fun x => !(orB x)) l) ≥ 0))):FMM Tp 165 [(.p (fS l)),(.fn 166 [] [(.ptr 0 0)])] [some (.box 124 [(.fn 113 [] [])])] (pB r0) [some (.box 124 [(.fn 113 [] [])])]:=by
 subst A6;have k1:=mq [0] 1 (bYk l h0 h1 h2);exact FMM.fi 1 gE func165 [k1.o] (gc k1 gn)
theorem bYm(l:Lqq)(hl:l.length≤1000)(hu:uni 6 l)(he:∀ x∈l,inR (x.getD 0 0-1)):FMM Tp 165 [.p (fS l),(.fn 166 [] [(.ptr 0 0)])] [some (.box 124 [(.fn 113 [] [])])] (pB (l.any (fun x => !(orB x)))) [some (.box 124 [(.fn 113 [] [])])]:=bYl hl hu he (mP _ _).symm
theorem cHe(h0:l.length≤1000)(h1:uni 6 l)(h2:∀ x∈l,inR (x.getD 0 0-1))(A6:r0=(!(l.any (fun x => !(orB x))))):FV Tp 106 [(.p (fS l)),(.fn 113 [] [])] base (pB r0) []:=by
 subst A6;have k1:=mq [0] 1 (bYm l h0 h1 h2);exact FV.fi func106 [k1.o] (gc k1 gn)
theorem bSg(l:Lqq)(hl:l.length≤1000)(hu:uni 6 l)(he:∀ x∈l,inR (x.getD 0 0-1)){base:Nat}:FV Tp 106 [.p (fS l),(.fn 113 [] [])] base (pB (l.all (orB))) []:=cHe hl hu he (by rw [List.all_eq_not_any_not])
theorem bYn(h0:uni 2 sk∧sk.length≤1000)(A6:r0=(!(inB sk [x0,x1,x2,x3,x4,x5]))):FMM Tp 166 [(.p (.agg [(aB x0),(aB x1),(aB x2),(aB x3),(aB x4),(aB x5)])),(.ptr 0 0)] [some (.box 124 [(.fn 111 [] [(.rp [(aB dl),(fS sk),(fS dc)] 0)])])] (pB r0) [some (.box 124 [(.fn 111 [] [(.rp [(aB dl),(fS sk),(fS dc)] 0)])])]:=by
 subst A6;have k1:=fk 2 (cHb x0 x1 x2 x3 x4 x5 dl sk dc h0) rfl;exact FMM.fi 1 gE func166 [k1.o] (gc k1 gn)
theorem bBm(x0 x1 x2 x3 x4 x5 dl:Int)(sk dc:Lqq)(he:uni 2 sk∧sk.length≤1000):FMM Tp 166 [(.p (.agg [(aB x0),(aB x1),(aB x2),(aB x3),(aB x4),(aB x5)])),.ptr 0 0] [some (.box 124 [(.fn 111 [] [(.rp [(aB dl),(fS sk),(fS dc)] 0)])])] (pB (!(inB sk [x0,x1,x2,x3,x4,x5]))) [some (.box 124 [(.fn 111 [] [(.rp [(aB dl),(fS sk),(fS dc)] 0)])])]:=bYn he rfl
def jB(l:Lqq)(dl:Int)(sk dc:Lqq)(i:Nat):St:=⟨fr 19 [(0,(.p (fS l))),(1,(.fn 166 [] [(.ptr 0 0)])),(7,(pI (l.length:Int))),(8,(pI (i:Int)))],[some (.box 124 [(.fn 111 [] [(.rp [(aB dl),(fS sk),(fS dc)] 0)])])]⟩
theorem bYo(hl0:aD Tp 1 lN (jB l dl sk dc 0) (.exit 0) (jB l dl sk dc Bm)):FMM Tp 77 [(.p (fS l)),(.fn 166 [] [(.ptr 0 0)])] [some (.box 124 [(.fn 111 [] [(.rp [(aB dl),(fS sk),(fS dc)] 0)])])] (pI (-1)) [some (.box 124 [(.fn 111 [] [(.rp [(aB dl),(fS sk),(fS dc)] 0)])])]:=FMM.fi 1 gE func77 [hl0.k 6 (gZ ga)] (gc hl0.code gn)
theorem bYp(hl0:aD Tp 1 lN (jB l dl sk dc 0) .ret (bQ (jB l dl sk dc Bm) [(4,(pI (Bm:Int)))])):FMM Tp 77 [(.p (fS l)),(.fn 166 [] [(.ptr 0 0)])] [some (.box 124 [(.fn 111 [] [(.rp [(aB dl),(fS sk),(fS dc)] 0)])])] (pI (Bm:Int)) [some (.box 124 [(.fn 111 [] [(.rp [(aB dl),(fS sk),(fS dc)] 0)])])]:=FMM.fi 1 gE func77 [hl0.k 6 (gZ ga)] (gc hl0.code gn)
section
variable(h0:(i:Int)<(l.length:Int))(h1:l[i]? = some [Aa,Ab,Ac,Ad,Ae,Af])(h2:uni 6 l)(h3:uni 2 sk∧sk.length≤1000)
include h0 h1 h2 h3
theorem aXb(h4:(inB sk [Aa,Ab,Ac,Ad,Ae,Af])=false):aC Tp 1 lN (jB l dl sk dc i) .ret (bQ (jB l dl sk dc i) [(4,(pI (i:Int)))]):=have k1:=mq [0] 1 (bBm Aa Ab Ac Ad Ae Af dl sk dc h3);aC.fi (gZ fm) [bT,.x (.agg [(aB Aa),(aB Ab),(aB Ac),(aB Ad),(aB Ae),(aB Af)]),k1.o,bT] (gc (bN h4) (gc k1 (gfl h2 h1 (g0 h0))))
theorem aXc(h4:(inB sk [Aa,Ab,Ac,Ad,Ae,Af])=true)(h5:gk i)(Ai:i'=(i+1)):aC Tp 1 lN (jB l dl sk dc i) .normal (jB l dl sk dc i'):=by
 subst Ai;have k1:=mq [0] 1 (bBm Aa Ab Ac Ad Ae Af dl sk dc h3);exact aC.fi (gZ ga) [bT,.x (.agg [(aB Aa),(aB Ab),(aB Ac),(aB Ad),(aB Ae),(aB Af)]),k1.o,bF] (gc h5 (gc (aR h4) (gc k1 (gfl h2 h1 (g0 h0)))))
end
theorem aXd(h0:(l.length:Int)≤(i:Int)):aC Tp 1 lN (jB l dl sk dc i) (.exit 0) (jB l dl sk dc i):=aC.fi (gZ ga) [bF] (gc (aK h0) gn)
theorem bYq(l:Lqq)(dl:Int)(sk dc:Lqq)(hl:l.length≤1000)(hu:uni 6 l)(he:∀ x∈l,uni 2 sk∧sk.length≤1000):FMM Tp 77 [.p (fS l),(.fn 166 [] [(.ptr 0 0)])] [some (.box 124 [(.fn 111 [] [(.rp [(aB dl),(fS sk),(fS dc)] 0)])])] (pI (bJ (fun x => !(inB sk x)) l)) [some (.box 124 [(.fn 111 [] [(.rp [(aB dl),(fS sk),(fS dc)] 0)])])]:=by
 rcases aD.find (P:=Tp) (k:=1) (b:=lN) (fun i=>jB l dl sk dc i) (fun i _=>bQ (jB l dl sk dc i) [(4,.p (aB (i:Int)))]) (jB l dl sk dc l.length) .ret (.exit 0) (by simp) (by simp) (fun x => !(inB sk x)) l
  (fun i x hx hp=>by obtain ⟨a,b,c,d,e,f,rfl⟩:=A7 (hu _ (Bl hx));exact aXc (by have:=aM hx;omega) hx hu (he _ (Bl hx)) (by simpa using hp) (aI (by have:=aM hx;omega)) rfl)
  (fun i x hx hp=>by obtain ⟨a,b,c,d,e,f,rfl⟩:=A7 (hu _ (Bl hx));exact aXb (by have:=aM hx;omega) hx hu (he _ (Bl hx)) (by simpa using hp))
  (aXd (l:=l) (i:=l.length) (by omega)) with ⟨i,x,h1,h2,h3,h4⟩ | ⟨h1,h2,h3⟩
 ·rw [eF h2];exact bYp h4
 ·rw [gC h1];exact bYo h3
theorem bYr(h0:l.length≤1000)(h1:uni 6 l)(h2:∀ x∈l,uni 2 sk∧sk.length≤1000)(A6:r0=(decide ((bJ (fun x => !(inB sk x)) l) ≥ 0))):FMM Tp 165 [(.p (fS l)),(.fn 166 [] [(.ptr 0 0)])] [some (.box 124 [(.fn 111 [] [(.rp [(aB dl),(fS sk),(fS dc)] 0)])])] (pB r0) [some (.box 124 [(.fn 111 [] [(.rp [(aB dl),(fS sk),(fS dc)] 0)])])]:=by
 subst A6;have k1:=mq [0] 1 (bYq l dl sk dc h0 h1 h2);exact FMM.fi 1 gE func165 [k1.o] (gc k1 gn)
theorem bYs(l:Lqq)(dl:Int)(sk dc:Lqq)(hl:l.length≤1000)(hu:uni 6 l)(he:∀ x∈l,uni 2 sk∧sk.length≤1000):FMM Tp 165 [.p (fS l),(.fn 166 [] [(.ptr 0 0)])] [some (.box 124 [(.fn 111 [] [(.rp [(aB dl),(fS sk),(fS dc)] 0)])])] (pB (l.any (fun x => !(inB sk x)))) [some (.box 124 [(.fn 111 [] [(.rp [(aB dl),(fS sk),(fS dc)] 0)])])]:=bYr hl hu he (mP _ _).symm
theorem cHf(h0:l.length≤1000)(h1:uni 6 l)(h2:∀ x∈l,uni 2 sk∧sk.length≤1000)(A6:r0=(!(l.any (fun x => !(inB sk x))))):FV Tp 106 [(.p (fS l)),(.fn 111 [] [(.rp [(aB dl),(fS sk),(fS dc)] 0)])] base (pB r0) []:=by
 subst A6;have k1:=mq [0] 1 (bYs l dl sk dc h0 h1 h2);exact FV.fi func106 [k1.o] (gc k1 gn)
theorem aXe(l:Lqq)(dl:Int)(sk dc:Lqq)(hl:l.length≤1000)(hu:uni 6 l)(he:∀ x∈l,uni 2 sk∧sk.length≤1000){base:Nat}:FV Tp 106 [.p (fS l),(.fn 111 [] [(.rp [(aB dl),(fS sk),(fS dc)] 0)])] base (pB (l.all (inB sk))) []:=cHf hl hu he (by rw [List.all_eq_not_any_not])
theorem cHg(h0:(within (sk.length:Int) 1 30)=false):FV Tp 44 [(.p (.agg [(aB dl),(fS sk),(fS dc)]))] base (pI 2) []:=have k1:=fk 1 (cD (sk.length:Int) 1 30) rfl;FV.fi func44 ([k1.o]++rT 5) (B0 (bN h0) (gc k1 gn))
section
variable(h0:(within (sk.length:Int) 1 30)=true)
include h0
theorem cHh(h1:(40:Int)<(dc.length:Int)):FV Tp 44 [(.p (.agg [(aB dl),(fS sk),(fS dc)]))] base (pI 2) []:=have k1:=fk 1 (cD (sk.length:Int) 1 30) rfl;FV.fi func44 ([k1.o]++rF 5++[bT]) (gc (bI h1) (B0 (aR h0) (gc k1 gn)))
theorem cHi(h1:(dc.length:Int)≤40)(h2:(within dl 0 10000)=false):FV Tp 44 [(.p (.agg [(aB dl),(fS sk),(fS dc)]))] base (pI 3) []:=have k1:=fk 1 (cD (sk.length:Int) 1 30) rfl;have k2:=fk 1 (cD dl 0 10000) rfl;FV.fi func44 ([k1.o]++rF 6++[k2.o]++rT 5) (B0 (bN h2) (gc k2 (gc (aK h1) (B0 (aR h0) (gc k1 gn)))))
end
section
variable(h0:(within (sk.length:Int) 1 30)=true)(h1:(dc.length:Int)≤40)(h2:(within dl 0 10000)=true)(h3:sk.length≤1000)(h4:uni 2 sk)
include h0 h1 h2 h3 h4
theorem cHj(h5:(sk.all (skB))=false):FV Tp 44 [(.p (.agg [(aB dl),(fS sk),(fS dc)]))] base (pI 3) []:=have k1:=fk 1 (cD (sk.length:Int) 1 30) rfl;have k2:=fk 1 (cD dl 0 10000) rfl;have k3:=fk 1 (xP sk h3 h4) rfl;FV.fi func44 ([k1.o]++rF 6++[k2.o,bF,bF,bF,k3.o,bF,bF]++rT 5) (B0 (bN h5) (Aq (aR h2) (gc k3 (Ak (aR h2) (gc k2 (gc (aK h1) (B0 (aR h0) (gc k1 gn))))))))
theorem cHk(h5:(sk.all (skB))=true)(h6:dc.length≤1000)(h7:uni 6 dc)(h8:(dc.all (dcB))=false):FV Tp 44 [(.p (.agg [(aB dl),(fS sk),(fS dc)]))] base (pI 3) []:=have k1:=fk 1 (cD (sk.length:Int) 1 30) rfl;have k2:=fk 1 (cD dl 0 10000) rfl;have k3:=fk 1 (xP sk h3 h4) rfl;have k4:=fk 1 (aAr dc h6 h7) rfl;FV.fi func44 ([k1.o]++rF 6++[k2.o,bF,bF,bF,k3.o]++rF 5++[k4.o,bF,bF,bT]) (gc (bN h8) (Aq (aR h5) (gc k4 (Ak (aR h5) (Aq (aR h2) (gc k3 (Ak (aR h2) (gc k2 (gc (aK h1) (B0 (aR h0) (gc k1 gn)))))))))))
theorem cHl(h5:(sk.all (skB))=true)(h6:dc.length≤1000)(h7:uni 6 dc)(h8:(dc.all (dcB))=true)(h9:uni 2 sk∧sk.length≤1000)(A8:(aP sk 0).length≤1000)(Be:∀ x∈(aP sk 0),-1000000≤x∧x≤1000000)(Bo:(!decide (aP sk 0).Nodup)=true):FV Tp 44 [(.p (.agg [(aB dl),(fS sk),(fS dc)]))] base (pI 5) []:=have k1:=fk 1 (cD (sk.length:Int) 1 30) rfl;have k2:=fk 1 (cD dl 0 10000) rfl;have k3:=fk 1 (xP sk h3 h4) rfl;have k4:=fk 1 (aAr dc h6 h7) rfl;have k5:=fk 1 (oH dl sk dc h9) rfl;FV.fi func44 ([k1.o]++rF 6++[k2.o,bF,bF,bF,k3.o]++rF 5++[k4.o,bF,bF,bF,k5.o,.c (pB (!decide (aP sk 0).Nodup)) [],bT,bT,bT,bT]) (Au Bo (gt (FC Tp 108 [(.own 1)] [(1,(.row 3 ((aP sk 0).length) ((aP sk 0).map aB)))] 2 (pB (!decide (aP sk 0).Nodup)) []) (fv (zD (aP sk 0) A8 Be)) (gc k5 (gc (aR h8) (Aq (aR h5) (gc k4 (Ak (aR h5) (Aq (aR h2) (gc k3 (Ak (aR h2) (gc k2 (gc (aK h1) (B0 (aR h0) (gc k1 gn))))))))))))))
end
section
variable(h0:(within (sk.length:Int) 1 30)=true)(h1:(dc.length:Int)≤40)(h2:(within dl 0 10000)=true)(h3:sk.length≤1000)(h4:uni 2 sk)(h5:(sk.all (skB))=true)(h6:dc.length≤1000)(h7:uni 6 dc)(h8:(dc.all (dcB))=true)(h9:uni 2 sk∧sk.length≤1000)(A8:(aP sk 0).length≤1000)(Be:∀ x∈(aP sk 0),-1000000≤x∧x≤1000000)(Bo:(!decide (aP sk 0).Nodup)=false)(Cl:uni 6 dc∧dc.length≤1000)(Ec:(aP dc 0).length≤1000)(Gx:∀ x∈(aP dc 0),-1000000≤x∧x≤1000000)
include h0 h1 h2 h3 h4 h5 h6 h7 h8 h9 A8 Be Bo Cl Ec Gx
theorem cHm(G4:(!decide (aP dc 0).Nodup)=true):FV Tp 44 [(.p (.agg [(aB dl),(fS sk),(fS dc)]))] base (pI 5) []:=have k1:=fk 1 (cD (sk.length:Int) 1 30) rfl;have k2:=fk 1 (cD dl 0 10000) rfl;have k3:=fk 1 (xP sk h3 h4) rfl;have k4:=fk 1 (aAr dc h6 h7) rfl;have k5:=fk 1 (oH dl sk dc h9) rfl;have k6:=fk 2 (aNg dl sk dc Cl) rfl;FV.fi func44 ([k1.o]++rF 6++[k2.o,bF,bF,bF,k3.o]++rF 5++[k4.o,bF,bF,bF,k5.o,.c (pB (!decide (aP sk 0).Nodup)) [],bF,bF,k6.o,bF,.c (pB (!decide (aP dc 0).Nodup)) [],bF,bT]) (gc G4 (gc Bo (gt (FC Tp 108 [(.own 2)] [(2,(.row 3 ((aP dc 0).length) ((aP dc 0).map aB)))] 3 (pB (!decide (aP dc 0).Nodup)) []) (fv (zD (aP dc 0) Ec Gx)) (gc Bo (gc k6 (Aq Bo (gt (FC Tp 108 [(.own 1)] [(1,(.row 3 ((aP sk 0).length) ((aP sk 0).map aB)))] 2 (pB (!decide (aP sk 0).Nodup)) []) (fv (zD (aP sk 0) A8 Be)) (gc k5 (gc (aR h8) (Aq (aR h5) (gc k4 (Ak (aR h5) (Aq (aR h2) (gc k3 (Ak (aR h2) (gc k2 (gc (aK h1) (B0 (aR h0) (gc k1 gn)))))))))))))))))))
theorem cHn(G4:(!decide (aP dc 0).Nodup)=false)(Jw:∀ x∈dc,uni 2 sk∧sk.length≤1000)(K5:(dc.all (inB sk))=false):FV Tp 44 [(.p (.agg [(aB dl),(fS sk),(fS dc)]))] base (pI 1) []:=have k1:=fk 1 (cD (sk.length:Int) 1 30) rfl;have k2:=fk 1 (cD dl 0 10000) rfl;have k3:=fk 1 (xP sk h3 h4) rfl;have k4:=fk 1 (aAr dc h6 h7) rfl;have k5:=fk 1 (oH dl sk dc h9) rfl;have k6:=fk 2 (aNg dl sk dc Cl) rfl;have k7:=fk 2 (aXe dc dl sk dc h6 h7 Jw) rfl;FV.fi func44 ([k1.o]++rF 6++[k2.o,bF,bF,bF,k3.o]++rF 5++[k4.o,bF,bF,bF,k5.o,.c (pB (!decide (aP sk 0).Nodup)) [],bF,bF,k6.o,bF,.c (pB (!decide (aP dc 0).Nodup)) [],bF,bF,.g 1 ⟨[],[1,2],[0],[]⟩,.x (fS dc),k7.o,bT]) (gc (bN K5) (gc k7 (gr (fS dc) (gc G4 (gc Bo (gt (FC Tp 108 [(.own 2)] [(2,(.row 3 ((aP dc 0).length) ((aP dc 0).map aB)))] 3 (pB (!decide (aP dc 0).Nodup)) []) (fv (zD (aP dc 0) Ec Gx)) (gc Bo (gc k6 (Aq Bo (gt (FC Tp 108 [(.own 1)] [(1,(.row 3 ((aP sk 0).length) ((aP sk 0).map aB)))] 2 (pB (!decide (aP sk 0).Nodup)) []) (fv (zD (aP sk 0) A8 Be)) (gc k5 (gc (aR h8) (Aq (aR h5) (gc k4 (Ak (aR h5) (Aq (aR h2) (gc k3 (Ak (aR h2) (gc k2 (gc (aK h1) (B0 (aR h0) (gc k1 gn))))))))))))))))))))))
theorem cHo(G4:(!decide (aP dc 0).Nodup)=false)(Jw:∀ x∈dc,uni 2 sk∧sk.length≤1000)(K5:(dc.all (inB sk))=true)(O7:∀ x∈dc,inR (x.getD 0 0-1))(Ng:(dc.all (orB))=false):FV Tp 44 [(.p (.agg [(aB dl),(fS sk),(fS dc)]))] base (pI 4) []:=have k1:=fk 1 (cD (sk.length:Int) 1 30) rfl;have k2:=fk 1 (cD dl 0 10000) rfl;have k3:=fk 1 (xP sk h3 h4) rfl;have k4:=fk 1 (aAr dc h6 h7) rfl;have k5:=fk 1 (oH dl sk dc h9) rfl;have k6:=fk 2 (aNg dl sk dc Cl) rfl;have k7:=fk 2 (aXe dc dl sk dc h6 h7 Jw) rfl;have k8:=fk 2 (bSg dc h6 h7 O7) rfl;FV.fi func44 ([k1.o]++rF 6++[k2.o,bF,bF,bF,k3.o]++rF 5++[k4.o,bF,bF,bF,k5.o,.c (pB (!decide (aP sk 0).Nodup)) [],bF,bF,k6.o,bF,.c (pB (!decide (aP dc 0).Nodup)) [],bF,bF,.g 1 ⟨[],[1,2],[0],[]⟩,.x (fS dc),k7.o,bF,.x (fS dc),k8.o,bT]) (gc (bN Ng) (gc k8 (gr (fS dc) (gc (aR K5) (gc k7 (gr (fS dc) (gc G4 (gc Bo (gt (FC Tp 108 [(.own 2)] [(2,(.row 3 ((aP dc 0).length) ((aP dc 0).map aB)))] 3 (pB (!decide (aP dc 0).Nodup)) []) (fv (zD (aP dc 0) Ec Gx)) (gc Bo (gc k6 (Aq Bo (gt (FC Tp 108 [(.own 1)] [(1,(.row 3 ((aP sk 0).length) ((aP sk 0).map aB)))] 2 (pB (!decide (aP sk 0).Nodup)) []) (fv (zD (aP sk 0) A8 Be)) (gc k5 (gc (aR h8) (Aq (aR h5) (gc k4 (Ak (aR h5) (Aq (aR h2) (gc k3 (Ak (aR h2) (gc k2 (gc (aK h1) (B0 (aR h0) (gc k1 gn)))))))))))))))))))))))))
theorem cHp(G4:(!decide (aP dc 0).Nodup)=false)(Jw:∀ x∈dc,uni 2 sk∧sk.length≤1000)(K5:(dc.all (inB sk))=true)(O7:∀ x∈dc,inR (x.getD 0 0-1))(Ng:(dc.all (orB))=true):FV Tp 44 [(.p (.agg [(aB dl),(fS sk),(fS dc)]))] base (pI 0) []:=have k1:=fk 1 (cD (sk.length:Int) 1 30) rfl;have k2:=fk 1 (cD dl 0 10000) rfl;have k3:=fk 1 (xP sk h3 h4) rfl;have k4:=fk 1 (aAr dc h6 h7) rfl;have k5:=fk 1 (oH dl sk dc h9) rfl;have k6:=fk 2 (aNg dl sk dc Cl) rfl;have k7:=fk 2 (aXe dc dl sk dc h6 h7 Jw) rfl;have k8:=fk 2 (bSg dc h6 h7 O7) rfl;FV.fi func44 ([k1.o]++rF 6++[k2.o,bF,bF,bF,k3.o]++rF 5++[k4.o,bF,bF,bF,k5.o,.c (pB (!decide (aP sk 0).Nodup)) [],bF,bF,k6.o,bF,.c (pB (!decide (aP dc 0).Nodup)) [],bF,bF,.g 1 ⟨[],[1,2],[0],[]⟩,.x (fS dc),k7.o,bF,.x (fS dc),k8.o,bF]) (gc (aR Ng) (gc k8 (gr (fS dc) (gc (aR K5) (gc k7 (gr (fS dc) (gc G4 (gc Bo (gt (FC Tp 108 [(.own 2)] [(2,(.row 3 ((aP dc 0).length) ((aP dc 0).map aB)))] 3 (pB (!decide (aP dc 0).Nodup)) []) (fv (zD (aP dc 0) Ec Gx)) (gc Bo (gc k6 (Aq Bo (gt (FC Tp 108 [(.own 1)] [(1,(.row 3 ((aP sk 0).length) ((aP sk 0).map aB)))] 2 (pB (!decide (aP sk 0).Nodup)) []) (fv (zD (aP sk 0) A8 Be)) (gc k5 (gc (aR h8) (Aq (aR h5) (gc k4 (Ak (aR h5) (Aq (aR h2) (gc k3 (Ak (aR h2) (gc k2 (gc (aK h1) (B0 (aR h0) (gc k1 gn)))))))))))))))))))))))))
end
end
section

def cY(dl:Int)(sk dc:Lqq):Int :=
 if within (sk.length:Int) 1 30=false∨(40:Int)<(dc.length:Int) then 2
 else if within dl 0 10000=false∨sk.all skB=false∨dc.all dcB=false then 3
 else if ¬ (aP sk 0).Nodup∨¬ (aP dc 0).Nodup then 5
 else if dc.all (inB sk)=false then 1
 else if dc.all orB=false then 4 else 0

structure bO (dl:Int) (sk dc:Lqq):Prop where
 us:uni 2 sk
 ud:uni 6 dc
 len:1≤sk.length∧sk.length≤30
 len2:dc.length≤40
 hdl:0≤dl∧dl≤10000
 hsk:∀ x∈sk,skB x=true
 hdc:∀ x∈dc,dcB x=true
 ns:(aP sk 0).Nodup
 nd:(aP dc 0).Nodup
 inb:∀ x∈dc,inB sk x=true
 ord:∀ x∈dc,orB x=true

theorem bW{n lo hi:Int}:within n lo hi=true↔lo≤n∧n≤hi:=by simp [within]
theorem mI(f:Lqq)(j:Nat):(aP f j).length=f.length:=by simp [aP]
theorem bBh{f:Lqq}{j:Nat}{n:Int}(h:n∈aP f j):∃ x∈f,x.getD j 0=n:=by simpa [aP] using h
theorem aNf{x:List Int}:skB x=true↔(1≤x.getD 0 0∧x.getD 0 0≤999) ∧ -1≤x.getD 1 0∧x.getD 1 0≤360000:=by
 unfold skB;rw [Ce,bW,bW]
theorem iH{x:List Int}:dcB x=true↔(1≤x.getD 0 0∧x.getD 0 0≤9999)∧(0≤x.getD 1 0∧x.getD 1 0≤9)∧(0≤x.getD 2 0∧x.getD 2 0≤10000)∧0≤x.getD 4 0∧x.getD 4 0≤nJ (x.getD 1 0):=by
 unfold dcB;rw [Ce,Ce,Ce,bW,bW,bW,bW]

theorem bSd(dl:Int)(sk dc:Lqq)(us:uni 2 sk)(ud:uni 6 dc){base:Nat}:FV Tp 44 [.p (.agg (bC dl sk dc))] base (.p (aB (cY dl sk dc))) []:=by
 unfold cY;cases h1:within (sk.length:Int) 1 30 with
 | false=>rw [if_pos (.inl rfl)];exact cHg h1
 | true =>
 have l1:=(bW.1 h1)
 by_cases h2:(40:Int)<(dc.length:Int)
 ·rw [if_pos (.inr h2)];exact cHh h1 h2
 rw [if_neg (by simp [h2])]
 have G1:(dc.length:Int)≤40:=by omega
 cases h3:within dl 0 10000 with
 | false=>rw [if_pos (.inl rfl)];exact cHi h1 G1 h3
 | true =>
 have hs:sk.length≤1000:=by omega
 have hd:dc.length≤1000:=by omega
 cases h4:sk.all skB with
 | false=>rw [if_pos (.inr (.inl rfl))];exact cHj h1 G1 h3 hs us h4
 | true =>
 cases h5:dc.all dcB with
 | false=>rw [if_pos (.inr (.inr rfl))];exact cHk h1 G1 h3 hs us h4 hd ud h5
 | true =>
 rw [if_neg (by simp)]
 have b1:∀ x∈aP sk 0,-1000000≤x∧x≤1000000:=fun n hn=>by
  obtain ⟨x,hx,rfl⟩:=bBh hn;have:=aNf.1 (gB.1 h4 x hx);omega
 have b2:∀ x∈aP dc 0,-1000000≤x∧x≤1000000:=fun n hn=>by
  obtain ⟨x,hx,rfl⟩:=bBh hn;have:=iH.1 (gB.1 h5 x hx);omega
 have b3:∀ x∈dc,inR (x.getD 0 0-1):=fun x hx=>by
  have:=iH.1 (gB.1 h5 x hx);unfold inR;omega
 have c1:(aP sk 0).length≤1000:=by rw [mI];exact hs
 have c2:(aP dc 0).length≤1000:=by rw [mI];exact hd
 by_cases h6:(aP sk 0).Nodup
 ·by_cases h7:(aP dc 0).Nodup
  ·rw [if_neg (by simp [h6,h7])]
   cases h8:dc.all (inB sk) with
   | false=>rw [if_pos rfl];exact cHn h1 G1 h3 hs us h4 hd ud h5 ⟨us,hs⟩ c1 b1 (by simp [h6]) ⟨ud,hd⟩ c2 b2 (by simp [h7]) (fun _ _=>⟨us,hs⟩) h8
   | true =>
    rw [if_neg (by simp)]
    cases h9:dc.all orB with
    | false=>rw [if_pos rfl];exact cHo h1 G1 h3 hs us h4 hd ud h5 ⟨us,hs⟩ c1 b1 (by simp [h6]) ⟨ud,hd⟩ c2 b2 (by simp [h7]) (fun _ _=>⟨us,hs⟩) h8 b3 h9
    | true=>rw [if_neg (by simp)];exact cHp h1 G1 h3 hs us h4 hd ud h5 ⟨us,hs⟩ c1 b1 (by simp [h6]) ⟨ud,hd⟩ c2 b2 (by simp [h7]) (fun _ _=>⟨us,hs⟩) h8 b3 h9
  ·rw [if_pos (.inr h7)];exact cHm h1 G1 h3 hs us h4 hd ud h5 ⟨us,hs⟩ c1 b1 (by simp [h6]) ⟨ud,hd⟩ c2 b2 (by simp [h7])
 ·rw [if_pos (.inl h6)];exact cHl h1 G1 h3 hs us h4 hd ud h5 ⟨us,hs⟩ c1 b1 (by simp [h6])

theorem bBi{dl:Int}{sk dc:Lqq}(us:uni 2 sk)(ud:uni 6 dc):cY dl sk dc=0↔bO dl sk dc:=by
 unfold cY;constructor
 ·intro h
  split at h
  ·simp at h
  rename_i h1
  split at h
  ·simp at h
  rename_i h2
  split at h
  ·simp at h
  rename_i h3
  split at h
  ·simp at h
  rename_i h4
  split at h
  ·simp at h
  rename_i h5;simp only [not_or,Bool.not_eq_false,Int.not_lt,Classical.not_not] at h1 h2 h3 h4 h5
  have:=bW.1 h1.1;exact ⟨us,ud,by omega,by omega,bW.1 h2.1,fun x hx=>gB.1 h2.2.1 x hx,fun x hx=>gB.1 h2.2.2 x hx,h3.1,h3.2,fun x hx=>gB.1 h4 x hx,fun x hx=>gB.1 h5 x hx⟩
 ·intro h
  have e1:within (sk.length:Int) 1 30=true:=bW.2 (by have:=h.len;omega)
  have e2:within dl 0 10000=true:=bW.2 h.hdl;have e3:sk.all skB=true:=gB.2 h.hsk;have e4:dc.all dcB=true:=gB.2 h.hdc;have e5:dc.all (inB sk)=true:=gB.2 h.inb;have e6:dc.all orB=true:=gB.2 h.ord;have:=h.len2;rw [if_neg (by rw [e1];simp;omega),if_neg (by rw [e2,e3,e4];simp),if_neg (by simp [h.ns,h.nd]),if_neg (by rw [e5];simp),if_neg (by rw [e6];simp)]
end
end KV
end Go.Proofs
section
namespace Go.Proofs
open Go.RowKit Go.Lib Go.Sort
namespace KV
open Tryz

theorem aWq{P:Program}{C:Cx}{w w':World}{ty n b:Nat}{cs Bz:List PV}{arr F6:Array Value}(hM:aU P C [some (.row ty n cs)] w)(hι:C.ι 0=some b)(hb:w.heap[b]? = some (.cells arr ty (0,0)))
  (hos:w'.os=w.os) (htp:w'.tape=w.tape) (hou:w'.output=w.output) (hsz:w.heap.size≤w'.heap.size) (hot:∀ b',b'<w.heap.size→b'≠b→w'.heap[b']? = w.heap[b']?)
  (A4:w'.heap[b]? = some (.cells F6 ty (0,0))) (hsa:F6.size=arr.size) (hl:Bz.length=cs.length) (hr:∀ j (h:j<Bz.length),cM C.F w' Bz[j] (F6.getD j undef)) (ho:∀ j,j<Bz.length→(F6.getD j undef).oneCell'=true) :
  Fr C [some (.row ty n cs)] w C [some (.row ty n Bz)] w'∧aU P C [some (.row ty n Bz)] w':=by
 have Kt:∀ (id:Nat) (o:AO),([some (.row ty n cs)]:Mem)[id]? = some (some o)→id=0∧o = .row ty n cs:=fun id o h=>by
  cases id with
  | zero=>simp at h;exact ⟨rfl,h.symm⟩
  | succ i=>simp at h
 have D2:∀ (id:Nat) (o:AO),([some (.row ty n Bz)]:Mem)[id]? = some (some o)→id=0∧o = .row ty n Bz:=fun id o h=>by
  cases id with
  | zero=>simp at h;exact ⟨rfl,h.symm⟩
  | succ i=>simp at h
 refine ⟨⟨hos,htp,hou,hsz,fun b' h1 h2=>hot b' h1 fun he => ?_,fun id o hm => ?_,fun id o hm Du n' Fy hx => ?_,fun id o hm o' hx hl => ?_,fun id o b' hm hl hbb => ?_,fun _ h=>h,fun _ h => .inl h⟩,
  ⟨fun id Du n' Fy hm => ?_,fun id Du Fy hm => ?_,fun id es cl hm => ?_,fun id G2 o o' b' h1 _ h2 _ _ _ => ?_,fun id o b' hm hl hbb => ?_,fun b' hf=>gF (hM.Fs b' hf) hsz,fun id o b' hm hl hbb => ?_⟩⟩
 ·subst he;exact h2 0 _ rfl rfl hι
 ·obtain ⟨rfl,rfl⟩:=Kt id o hm
  exact ⟨⟨_,rfl⟩,rfl,rfl⟩
 ·obtain ⟨rfl,rfl⟩:=Kt id o hm
  obtain ⟨_,he⟩:=D2 _ _ hx;cases he;exact ⟨cs,rfl⟩
 ·obtain ⟨rfl,rfl⟩:=Kt id o hm
  rfl
 ·obtain ⟨rfl,rfl⟩:=D2 id o hm
  exact .inr ⟨0,_,rfl,rfl,hbb⟩
 ·obtain ⟨rfl,he⟩:=D2 id _ hm
  cases he
  rcases hM.row 0 _ _ _ rfl with ⟨hn,_⟩ | ⟨b',Xf,i,q1,q2,q3,q4,q5,q6,q7,q8⟩
  ·rw [hι] at hn;cases hn
  ·rw [hι] at q1;cases q1
   rw [hb] at q2;cases q2
   exact .inr ⟨b,F6,i,hι,A4,q3,by rw [hsa,q4],by rw [hl,q5],q6,q7,hr,ho⟩
 ·obtain ⟨_,he⟩:=D2 id _ hm;cases he
 ·obtain ⟨_,he⟩:=D2 id _ hm;cases he
 ·obtain ⟨rfl,_⟩:=D2 id _ h1
  obtain ⟨rfl,_⟩:=D2 G2 _ h2;rfl
 ·obtain ⟨rfl,_⟩:=D2 id _ hm
  exact hM.nF 0 _ b' rfl rfl hbb
 ·obtain ⟨rfl,_⟩:=D2 id _ hm
  exact gF (hM.lt 0 _ b' rfl rfl hbb) hsz

def oR(k:Nat)(x:List Int):List Value:=(List.range k).map fun i => .int .i64 (x.getD i 0)
theorem aGf(k:Nat)(x:List Int):(oR k x).length=k:=by simp [oR]
theorem aGg(k:Nat)(x:List Int):∀ v∈oR k x,v.oneCell'=true:=fun v hv=>by
 obtain ⟨i,_,rfl⟩:=B3.1 hv;rfl
def cfL(x y:List Int):Int:=compareInt (x.getD 0 0) (y.getD 0 0)
theorem ltL(x y:List Int):ltOf cfL x y=decide (x.getD 0 0<y.getD 0 0):=by
 unfold ltOf cfL compareInt;generalize x.getD 0 0=a;generalize y.getD 0 0=b
 by_cases h1:a<b
 ·simp [h1]
 ·by_cases h2:b<a <;> simp [h1,h2]
theorem cNr:SWO (ltOf cfL) where
 irrefl x:=by rw [ltL];simp
 trans x y z h1 h2:=by rw [ltL] at *;simp only [decide_eq_true_eq] at *;omega
 ntrans x y z h1 h2:=by rw [ltL] at *;simp only [decide_eq_false_iff_not] at *;omega
def aA(l:Lqq):Lqq:=l.mergeSort fun a b=>decide (a.getD 0 0≤b.getD 0 0)
theorem dZ(l:Lqq):(aA l).Perm l:=List.mergeSort_perm _ _
theorem iX(l:Lqq):(aA l).Pairwise fun a b=>a.getD 0 0≤b.getD 0 0:=by
 have:=List.pairwise_mergeSort (le:=fun a b:List Int=>decide (a.getD 0 0≤b.getD 0 0)) (fun a b c h1 h2=>by simp only [decide_eq_true_eq] at *;omega) (fun a b=>by simp only [wB,decide_eq_true_eq];omega) l
 exact this.imp fun h=>of_decide_eq_true h
theorem aDo{l:Lqq}(hn:(aP l 0).Nodup){a b:List Int}(ha:a∈l)(hb:b∈l)(h:a.getD 0 0=b.getD 0 0):a=b:=by
 induction l with
 | nil=>cases ha
 | cons x l ih =>
  unfold aP at hn ih
  rw [iB,List.nodup_cons] at hn
  rcases fW.1 ha with rfl | Mr <;> rcases fW.1 hb with rfl | A4
  ·rfl
  ·exact absurd (B3.2 ⟨b,A4,h.symm⟩) hn.1
  ·exact absurd (B3.2 ⟨a,Mr,h⟩) hn.1
  ·exact ih hn.2 Mr A4
theorem aWr{l l':Lqq}(hn:(aP l 0).Nodup)(hp:l'.Perm l)(hs:l'.Pairwise fun a b=>a.getD 0 0≤b.getD 0 0):l'=aA l :=
 List.Perm.eq_of_pairwise (le:=fun a b=>a.getD 0 0≤b.getD 0 0) (fun a b ha hb h1 h2=>aDo hn (hp.mem_iff.1 ha) ((dZ l).mem_iff.1 hb) (by omega)) hs (iX l) (hp.trans (dZ l).symm)
theorem bSc{k:Nat}{l l':Lqq}(hp:l'.Perm l)(hu:uni k l):uni k l':=fun x hx=>hu x (hp.mem_iff.1 hx)
theorem nX{k:Nat}{l:Lqq}(hu:uni k l):uni k (aA l):=bSc (dZ l) hu
theorem dC(l:Lqq):(aA l).length=l.length:=(dZ l).length_eq
end KV
end Go.Proofs
end
section
namespace Go.Proofs
open Go.Shelf
def Tryz.sortSk_ren:Go.Shelf.Ren:=⟨fun | 6=>114 | 15=>131 | 14=>167 | 28=>180 | 29=>181 | 20=>191 | 21=>192 | 22=>193 | 23=>194 | 24=>195 | 25=>196 | 26=>197 | 27=>198 | 46=>218 | 47=>208 | 48=>209 | 49=>219 | 50=>220 | 57=>226 | n=>n,fun | 22=>23 | 24=>31 | 25=>157 | 3=>3 | 39=>172 | 0=>0 | 53=>127 | 55=>225 | 4=>4 | 46=>218 | 45=>217 | 50=>106 | 5=>5 | 9=>9 | 66=>245 | 70=>249 | 76=>257 | 77=>198 | n=>n,fun | n=>n⟩
theorem Tryz.sortSk:Go.Proofs.SlLaysF0.n6 Tryz.prog Tryz.sortSk_ren:={
 mixed:=by kernel_rfl
 f6:=⟨Tryz.f114.name,by decide,func114.trans (congrArg some (by kernel_rfl))⟩
 f14:=⟨Tryz.f167.name,by decide,func167.trans (congrArg some (by kernel_rfl))⟩
 f15:=func131.trans (congrArg some (by kernel_rfl))
 f20:=⟨Tryz.f191.name,by decide,func191.trans (congrArg some (by kernel_rfl))⟩
 f21:=⟨Tryz.f192.name,by decide,func192.trans (congrArg some (by kernel_rfl))⟩
 f22:=⟨Tryz.f193.name,by decide,func193.trans (congrArg some (by kernel_rfl))⟩
 f23:=⟨Tryz.f194.name,by decide,func194.trans (congrArg some (by kernel_rfl))⟩
 f24:=⟨Tryz.f195.name,by decide,func195.trans (congrArg some (by kernel_rfl))⟩
 f25:=⟨Tryz.f196.name,by decide,func196.trans (congrArg some (by kernel_rfl))⟩
 f26:=⟨Tryz.f197.name,by decide,func197.trans (congrArg some (by kernel_rfl))⟩
 f27:=⟨Tryz.f198.name,by decide,func198.trans (congrArg some (by kernel_rfl))⟩
 f28:=func180.trans (congrArg some (by kernel_rfl))
 f29:=func181.trans (congrArg some (by kernel_rfl))
 f46:=⟨Tryz.f218.name,by decide,func218.trans (congrArg some (by kernel_rfl))⟩
 f47:=func208.trans (congrArg some (by kernel_rfl))
 f48:=func209.trans (congrArg some (by kernel_rfl))
 f49:=⟨Tryz.f219.name,by decide,func219.trans (congrArg some (by kernel_rfl))⟩
 f50:=⟨Tryz.f220.name,by decide,func220.trans (congrArg some (by kernel_rfl))⟩
 f57:=⟨Tryz.f226.name,by decide,func226.trans (congrArg some (by kernel_rfl))⟩
 t0:=Tryz.underlying0
 a0:=Tryz.isAgg0
 z0:=Tryz.sizeOf0
 v0:=Tryz.zeroValue0
 t3:=Tryz.underlying3
 a3:=Tryz.isAgg3
 z3:=Tryz.sizeOf3
 v3:=Tryz.zeroValue3
 t4:=Tryz.underlying4
 a4:=Tryz.isAgg4
 z4:=Tryz.sizeOf4
 v4:=Tryz.zeroValue4
 t5:=Tryz.underlying5
 a5:=Tryz.isAgg5
 z5:=Tryz.sizeOf5
 v5:=Tryz.zeroValue5
 t9:=Tryz.underlying9
 a9:=Tryz.isAgg9
 z9:=Tryz.sizeOf9
 v9:=Tryz.zeroValue9
 t22:=Tryz.underlying23
 a22:=Tryz.isAgg23
 z22:=Tryz.sizeOf23
 v22:=Tryz.zeroValue23
 t25:=Tryz.underlying157
 a25:=Tryz.isAgg157
 z25:=Tryz.sizeOf157
 v25:=Tryz.zeroValue157
 t39:=Tryz.underlying172
 a39:=Tryz.isAgg172
 z39:=Tryz.sizeOf172
 v39:=Tryz.zeroValue172
 t45:=Tryz.underlying217
 a45:=Tryz.isAgg217
 z45:=Tryz.sizeOf217
 v45:=Tryz.zeroValue217
 t46:=Tryz.underlying218
 a46:=Tryz.isAgg218
 z46:=Tryz.sizeOf218
 v46:=Tryz.zeroValue218
 t50:=Tryz.underlying106
 a50:=Tryz.isAgg106
 z50:=Tryz.sizeOf106
 v50:=Tryz.zeroValue106
 t53:=Tryz.underlying127
 a53:=Tryz.isAgg127
 z53:=Tryz.sizeOf127
 v53:=Tryz.zeroValue127
 t55:=Tryz.underlying225
 a55:=Tryz.isAgg225
 z55:=Tryz.sizeOf225
 v55:=Tryz.zeroValue225
 t66:=Tryz.underlying245
 a66:=Tryz.isAgg245
 z66:=Tryz.sizeOf245
 v66:=Tryz.zeroValue245
 t70:=Tryz.underlying249
 a70:=Tryz.isAgg249
 z70:=Tryz.sizeOf249
 v70:=Tryz.zeroValue249
 t76:=Tryz.underlying257
 a76:=Tryz.isAgg257
 z76:=Tryz.sizeOf257
 v76:=Tryz.zeroValue257
 t77:=Tryz.underlying198
 a77:=Tryz.isAgg198
 z77:=Tryz.sizeOf198
 v77:=Tryz.zeroValue198 }
def Tryz.sortDc_ren:Go.Shelf.Ren:=⟨fun | 6=>117 | 15=>131 | 14=>169 | 28=>180 | 29=>181 | 20=>199 | 21=>200 | 22=>201 | 23=>202 | 24=>203 | 25=>204 | 26=>205 | 27=>206 | 46=>221 | 47=>208 | 48=>209 | 49=>222 | 50=>223 | 57=>227 | n=>n,fun | 22=>24 | 24=>44 | 25=>159 | 3=>3 | 39=>172 | 0=>0 | 53=>127 | 55=>225 | 4=>4 | 46=>218 | 45=>217 | 50=>106 | 5=>5 | 9=>9 | 66=>245 | 70=>249 | 76=>257 | 77=>198 | n=>n,fun | n=>n⟩
theorem Tryz.sortDc:Go.Proofs.SlLaysF0.n6 Tryz.prog Tryz.sortDc_ren:={
 mixed:=by kernel_rfl
 f6:=⟨Tryz.f117.name,by decide,func117.trans (congrArg some (by kernel_rfl))⟩
 f14:=⟨Tryz.f169.name,by decide,func169.trans (congrArg some (by kernel_rfl))⟩
 f15:=func131.trans (congrArg some (by kernel_rfl))
 f20:=⟨Tryz.f199.name,by decide,func199.trans (congrArg some (by kernel_rfl))⟩
 f21:=⟨Tryz.f200.name,by decide,func200.trans (congrArg some (by kernel_rfl))⟩
 f22:=⟨Tryz.f201.name,by decide,func201.trans (congrArg some (by kernel_rfl))⟩
 f23:=⟨Tryz.f202.name,by decide,func202.trans (congrArg some (by kernel_rfl))⟩
 f24:=⟨Tryz.f203.name,by decide,func203.trans (congrArg some (by kernel_rfl))⟩
 f25:=⟨Tryz.f204.name,by decide,func204.trans (congrArg some (by kernel_rfl))⟩
 f26:=⟨Tryz.f205.name,by decide,func205.trans (congrArg some (by kernel_rfl))⟩
 f27:=⟨Tryz.f206.name,by decide,func206.trans (congrArg some (by kernel_rfl))⟩
 f28:=func180.trans (congrArg some (by kernel_rfl))
 f29:=func181.trans (congrArg some (by kernel_rfl))
 f46:=⟨Tryz.f221.name,by decide,func221.trans (congrArg some (by kernel_rfl))⟩
 f47:=func208.trans (congrArg some (by kernel_rfl))
 f48:=func209.trans (congrArg some (by kernel_rfl))
 f49:=⟨Tryz.f222.name,by decide,func222.trans (congrArg some (by kernel_rfl))⟩
 f50:=⟨Tryz.f223.name,by decide,func223.trans (congrArg some (by kernel_rfl))⟩
 f57:=⟨Tryz.f227.name,by decide,func227.trans (congrArg some (by kernel_rfl))⟩
 t0:=Tryz.underlying0
 a0:=Tryz.isAgg0
 z0:=Tryz.sizeOf0
 v0:=Tryz.zeroValue0
 t3:=Tryz.underlying3
 a3:=Tryz.isAgg3
 z3:=Tryz.sizeOf3
 v3:=Tryz.zeroValue3
 t4:=Tryz.underlying4
 a4:=Tryz.isAgg4
 z4:=Tryz.sizeOf4
 v4:=Tryz.zeroValue4
 t5:=Tryz.underlying5
 a5:=Tryz.isAgg5
 z5:=Tryz.sizeOf5
 v5:=Tryz.zeroValue5
 t9:=Tryz.underlying9
 a9:=Tryz.isAgg9
 z9:=Tryz.sizeOf9
 v9:=Tryz.zeroValue9
 t22:=Tryz.underlying24
 a22:=Tryz.isAgg24
 z22:=Tryz.sizeOf24
 v22:=Tryz.zeroValue24
 t25:=Tryz.underlying159
 a25:=Tryz.isAgg159
 z25:=Tryz.sizeOf159
 v25:=Tryz.zeroValue159
 t39:=Tryz.underlying172
 a39:=Tryz.isAgg172
 z39:=Tryz.sizeOf172
 v39:=Tryz.zeroValue172
 t45:=Tryz.underlying217
 a45:=Tryz.isAgg217
 z45:=Tryz.sizeOf217
 v45:=Tryz.zeroValue217
 t46:=Tryz.underlying218
 a46:=Tryz.isAgg218
 z46:=Tryz.sizeOf218
 v46:=Tryz.zeroValue218
 t50:=Tryz.underlying106
 a50:=Tryz.isAgg106
 z50:=Tryz.sizeOf106
 v50:=Tryz.zeroValue106
 t53:=Tryz.underlying127
 a53:=Tryz.isAgg127
 z53:=Tryz.sizeOf127
 v53:=Tryz.zeroValue127
 t55:=Tryz.underlying225
 a55:=Tryz.isAgg225
 z55:=Tryz.sizeOf225
 v55:=Tryz.zeroValue225
 t66:=Tryz.underlying245
 a66:=Tryz.isAgg245
 z66:=Tryz.sizeOf245
 v66:=Tryz.zeroValue245
 t70:=Tryz.underlying249
 a70:=Tryz.isAgg249
 z70:=Tryz.sizeOf249
 v70:=Tryz.zeroValue249
 t76:=Tryz.underlying257
 a76:=Tryz.isAgg257
 z76:=Tryz.sizeOf257
 v76:=Tryz.zeroValue257
 t77:=Tryz.underlying198
 a77:=Tryz.isAgg198
 z77:=Tryz.sizeOf198
 v77:=Tryz.zeroValue198 }
def Tryz.cmpInt_ren:Go.Shelf.Ren:=⟨fun | 5=>116 | 7=>168 | n=>n,fun | 22=>3 | 3=>3 | 4=>4 | n=>n,fun | n=>n⟩
theorem Tryz.cmpInt:Go.Proofs.SlLaysC2.n5 Tryz.prog Tryz.cmpInt_ren:={
 mixed:=by kernel_rfl
 f5:=⟨Tryz.f116.name,by decide,func116.trans (congrArg some (by kernel_rfl))⟩
 f7:=⟨Tryz.f168.name,by decide,func168.trans (congrArg some (by kernel_rfl))⟩
 t3:=Tryz.underlying3
 a3:=Tryz.isAgg3
 z3:=Tryz.sizeOf3
 v3:=Tryz.zeroValue3
 t4:=Tryz.underlying4
 a4:=Tryz.isAgg4
 z4:=Tryz.sizeOf4
 v4:=Tryz.zeroValue4
 t22:=Tryz.underlying3
 a22:=Tryz.isAgg3
 z22:=Tryz.sizeOf3
 v22:=Tryz.zeroValue3 }
end Go.Proofs
end
section
namespace Go.Proofs
open Go.RowKit Go.Lib Go.Sort Go.Shelf
namespace KV
open Tryz

set_option maxHeartbeats 1000000 in
theorem cNp(a b c d:Int)(W:World):Calls Tp 115 #[.agg #[.int .i64 a,.int .i64 b],.agg #[.int .i64 c,.int .i64 d]] W fun e w'=>e = .returned (.int .i64 (Lib.compareInt a c))∧∃ q Te,w'=grow (W.drewN q) Te:=by
 have hcon:=fun W'=>AnyG.cmp_Compare_int Tryz.cmpInt a c W'
 change ∀ W',Calls Tp 116 _ _ _ at hcon
 generalize Lib.compareInt a c=r at hcon ⊢
 go_enter func115,Tryz.ntmps115
 go_wp2_with (go_at_call 116;refine (hcon _).mono ?_;rintro e w' ⟨rfl,rfl⟩)
 go_ret
 exact ⟨rfl,0,_,by rw [alloc_eq_grow,alloc_eq_grow,grow_grow];rfl⟩
set_option maxHeartbeats 1000000 in
theorem cNq(a b c d e f a' b' c' d' e' f':Int)(W:World):Calls Tp 118 #[.agg #[.int .i64 a,.int .i64 b,.int .i64 c,.int .i64 d,.int .i64 e,.int .i64 f],.agg #[.int .i64 a',.int .i64 b',.int .i64 c',.int .i64 d',.int .i64 e',.int .i64 f']] W fun z w'=>z = .returned (.int .i64 (Lib.compareInt a a'))∧∃ q Te,w'=grow (W.drewN q) Te:=by
 have hcon:=fun W'=>AnyG.cmp_Compare_int Tryz.cmpInt a a' W'
 change ∀ W',Calls Tp 116 _ _ _ at hcon
 generalize Lib.compareInt a a'=r at hcon ⊢
 go_enter func118,Tryz.ntmps118
 go_wp2_with (go_at_call 116;refine (hcon _).mono ?_;rintro e w' ⟨rfl,rfl⟩)
 go_ret
 exact ⟨rfl,0,_,by rw [alloc_eq_grow,alloc_eq_grow,grow_grow];rfl⟩

theorem zB{C:Cx}{M:Mem}{w:World}{x:AV}{us:List Value}(h:dL C M w [x] us):∃ u,us=[u]∧Rep C M w x u:=by
 cases h with | cons _ u _ _ h hr=>cases hr;exact ⟨u,rfl,h⟩
theorem bSb{C:Cx}{M:Mem}{w:World}{x y:AV}{us:List Value}(h:dL C M w [x,y] us):∃ u v,us=[u,v]∧Rep C M w x u∧Rep C M w y v:=by
 cases h with | cons _ u _ _ h hr=>obtain ⟨v,rfl,h2⟩:=zB hr;exact ⟨u,v,rfl,h,h2⟩
theorem cGu{C:Cx}{M:Mem}{w:World}{f:Nat}{u:Value}(h:Rep C M w (.fn f [] []) u):u = .func (.func f) #[] #[]:=by
 cases h with
 | fn _ _ _ us vs h1 h2 h3 h4 =>
  have e1:us = #[]:=Array.eq_empty_of_size_eq_zero h1;have e2:vs = #[]:=Array.eq_empty_of_size_eq_zero h2;subst e1;subst e2;rfl

theorem aKn{k:Nat}{l:Lqq}(hu:uni k l){j:Nat}(hj:j<(l.flatten.map aB).length):(l.flatten.map aB)[j] = .v ((oR k (l.toArray)[j / k]!)[j % k]!):=by
 have hL:(l.flatten).length=l.length*k:=pO hu;have C7:j<l.length*k:=by rw [Co,hL] at hj;exact hj
 have hk:0<k:=by
  rcases Nat.eq_zero_or_pos k with h | h
  ·subst h;simp at C7
  ·exact h
 have hq:j / k<l.length:=Nat.div_lt_of_lt_mul (by rw [Nat.mul_comm];exact C7)
 have hm:j % k<k:=aQz _ hk;have hx:l[j / k]? = some l[j / k]:=Ay hq;have hxl:l[j / k].length=k:=hu _ (fP hq);have hf:l[j / k][j % k]? = some l[j / k][j % k]:=Ay (by omega)
 have:=bE hu hx hf;have e:j / k*k+j % k=j:=by rw [Nat.mul_comm];exact Nat.div_add_mod j k
 rw [e,Ay hj] at this
 rw [Option.some.inj this];have e2:(l.toArray)[j / k]! = l[j / k]:=by simp [hq]
 rw [e2];unfold oR;simp only [List.getElem!_eq_getElem?_getD,fV,mO hm,Option.map_some,Option.getD_some,B5,hf]

theorem aRn{f g ty k:Nat}(hsz:∃ i,Tryz.prog.info? ty=some i∧i.size=k)(hk:0<k)
  (hcall:∀ (blk cap:Nat) (d:Array (List Int)) (w:World),HoldsK (oR k) k w blk 0 d→blk<w.heap.size→d.size<4611686018427387904→Calls Tp f #[.slice (some ⟨blk,0,none⟩) d.size cap,.func (.func g) #[] #[]] w fun e w' =>
   e = .returned (.tuple #[])∧∃ d' n os,PermIn 0 d.size d d'∧SortedIn (ltOf cfL) 0 d.size d'∧w'=sortWorldK (oR k) k w blk 0 n d' os)
  (hnil:∀ (p:Option Addr) (cap:Nat) (fv:Value) (w:World),Calls Tp f #[.slice p 0 cap,fv] w fun e w'=>e = .returned (.tuple #[])∧w'=w)
  (l:Lqq) (hu:uni k l) (hn:(aP l 0).Nodup) (hl:l.length≤1000) :
  FMM Tp f [.own 0,.fn g [] []] [some (.row ty l.length (l.flatten.map aB))] (.tup []) [some (.row ty (aA l).length ((aA l).flatten.map aB))]:=fun C w us hus hM n=>by
 obtain ⟨u,v,rfl,Px,hv⟩:=bSb hus;obtain rfl:=cGu hv;rw [dC];have hown:(C.ι 0=none∧u = .slice none 0 0∧l.length=0)∨∃ b,C.ι 0=some b∧u = .slice (some ⟨b,0,none⟩) l.length (C.κ 0):=by
  cases Px with
  | own _ _ h0 ha hr =>
   rcases hr _ _ _ rfl with ⟨q1,q2,q3⟩ | ⟨b,q1,q2⟩
   ·exact .inl ⟨q2,q1,q3⟩
   ·exact .inr ⟨b,q2,q1⟩
 rcases hown with ⟨hι,rfl,h0⟩ | ⟨b,hι,rfl⟩
 ·obtain rfl:l=[]:=aCw h0
  refine (callsIn_wide.2 (hnil none 0 _ w)).mono ?_;rintro e w' ⟨rfl,rfl⟩;have e0:aA []=[]:=by simp [aA]
  rw [e0];exact ⟨_,rfl,C,Fr.refl _ _ _,hM,.tup [] #[] rfl (fun i h=>by simp at h)⟩
 ·rcases hM.row 0 _ _ _ rfl with ⟨Fx,_⟩ | ⟨b',arr,i,q1,q2,q3,q4,q5,q6,q7,q8,q9⟩
  ·rw [hι] at Fx;cases Fx
  ·rw [hι] at q1;cases q1
   obtain ⟨i',Ct,Cj⟩:=hsz;rw [q3] at Ct;cases Ct
   have hcell:∀ j (hj:j<(l.flatten.map aB).length),arr.getD j undef=(oR k (l.toArray)[j / k]!)[j % k]! := fun j hj=>by
    have:=q8 j hj;rw [aKn hu hj] at this
    exact cNo this
   have hlen:(l.flatten.map aB).length=l.length*k:=by rw [Co,pO hu]
   have hle:l.length*k≤arr.size:=by rw [q4,Cj];exact Nat.mul_le_mul_right k q6
   have hH:HoldsK (oR k) k w b 0 l.toArray:=by
    unfold HoldsK Holds;intro j hj;rw [size_flatK] at hj
    have Ee:j<l.length*k:=by simpa using hj
    rw [get_flatK _ _ _ _ hj,← hcell j (by rw [hlen];exact Ee)]
    have hja:j<arr.size:=by omega
    rw [iC];refine ⟨?_,?_⟩
    ·unfold World.cell?
     simp only [q2];rw [Cb,rY hja];simp
    ·unfold World.frozen?
     simp [q2]
   have hb:b<w.heap.size:=lt_of_block q2;have hc:=hcall b (C.κ 0) l.toArray w hH hb (by simp;omega)
   rw [List.size_toArray] at hc
   refine (callsIn_wide.2 hc).mono ?_;rintro e w' ⟨rfl,d',m,os,hp,hs,rfl⟩;have hd:d'.size=l.length:=by have:=hp.1;simpa using this
   have hperm:d'.toList.Perm l:=by
    have:=hp.2.2;have e1:d'.extract 0 l.length=d':=by rw [← hd];simp
    have e2:l.toArray.extract 0 l.length=l.toArray:=by simp
    rw [e1,e2] at this
    simpa using this
   have hsorted:d'.toList.Pairwise fun a b=>a.getD 0 0≤b.getD 0 0:=by
    rw [List.pairwise_iff_getElem];intro i j hi hj hij;have Ee:j<d'.size:=by simpa using hj
    have:=hs i j (Nat.zero_le _) hij (by omega)
    rw [ltL] at this
    have h3:=of_decide_eq_false this;rw [getElem!_pos d' i (by omega),getElem!_pos d' j Ee] at h3
    simpa using Int.not_lt.1 h3
   have Oq:d'=(aA l).toArray:=by
    have:=aWr hn hperm hsorted;rw [← this]
   subst Oq;have hsu:=nX hu;have hsl:=dC l;have hw:∃ F6,(sortWorldK (oR k) k w b 0 m (aA l).toArray os).heap[b]? = some (.cells F6 ty (0,0))∧F6.size=arr.size∧∀ j,j<l.length*k→F6.getD j undef=(oR k (aA l).toArray[j / k]!)[j % k]! := by
    refine ⟨putCells id 0 (flatK (oR k) k (aA l).toArray) arr,?_,by simp [putCells],fun j hj => ?_⟩
    ·unfold sortWorldK grow putRowK putRow mapBlock
     have hlt:b<(w.heap.modify b (onCells (putCells id 0 (flatK (oR k) k (aA l).toArray)))).size:=by simpa using hb
     show (w.heap.modify b (onCells (putCells id 0 (flatK (oR k) k (aA l).toArray)))++os)[b]? = _;rw [Array.getElem?_append_left hlt,Array.getElem?_modify];simp [q2,onCells]
    ·have hja:j<arr.size:=by omega
     rw [Cb];unfold putCells;rw [Array.getElem?_mapIdx,rY hja];have hsz:j<(flatK (oR k) k (aA l).toArray).size:=by rw [size_flatK];simpa [hsl] using hj
     simp only [Option.map_some,Option.getD_some,Nat.zero_le,true_and,iC,hsz,if_true,Nat.sub_zero,id];exact get_flatK _ _ _ _ (by simpa [hsl] using hj)
   obtain ⟨F6,w1,w2,w3⟩:=hw;have Py:((aA l).flatten.map aB).length=l.length*k:=by rw [Co,pO hsu,hsl]
   have hall:∀ j (h:j<((aA l).flatten.map aB).length),F6.getD j undef=(oR k (aA l).toArray[j / k]!)[j % k]! := fun j h=>w3 j (by omega)
   obtain ⟨f1,m1⟩:=aWq (Bz:=(aA l).flatten.map aB) (w':=sortWorldK (oR k) k w b 0 m (aA l).toArray os) hM hι q2 rfl rfl rfl
    (by unfold sortWorldK;rw [size_grow];show w.heap.size≤(w.heap.modify b _).size+_;simp)
    (fun b' h1 h2=>by
     show (w.heap.modify b (onCells (putCells id 0 (flatK (oR k) k (aA l).toArray)))++os)[b']? = _;rw [Array.getElem?_append_left (by simpa using h1),Array.getElem?_modify,if_neg (fun h=>h2 h.symm)])
    w1 w2 (by rw [Py,hlen]) (fun j h=>by rw [aKn hsu h,hall j h];exact .v _)
    (fun j h=>by
     rw [hall j h];have:=aGg k ((aA l).toArray[j / k]!) ((oR k (aA l).toArray[j / k]!)[j % k]!) (by
      have hm:j % k<(oR k (aA l).toArray[j / k]!).length:=by rw [aGf];exact aQz _ hk
      rw [List.getElem!_eq_getElem?_getD,Ay hm];exact fP hm)
     exact this)
   exact ⟨_,rfl,C,f1,m1,.tup [] #[] rfl (fun i h=>by simp at h)⟩
end KV
end Go.Proofs
end
section
namespace Go.Proofs
open Go.RowKit Go.Lib Go.Sort Go.Shelf
namespace KV
open Tryz

theorem Nn:(Tryz.prog.info? 31).map (fun i=>i.size)=some 2:=by kernel_rfl
theorem Np:(Tryz.prog.info? 44).map (fun i=>i.size)=some 6:=by kernel_rfl
theorem vS{t k:Nat}(h:(Tryz.prog.info? t).map (fun i=>i.size)=some k):∃ i,Tryz.prog.info? t=some i∧i.size=k:=by
 cases h2:Tryz.prog.info? t with
 | none=>rw [h2] at h;cases h
 | some i=>rw [h2] at h;exact ⟨i,rfl,by simpa using h⟩
theorem bJy(l:Lqq)(hu:uni 2 l)(hn:(aP l 0).Nodup)(hl:l.length≤1000):FMM Tp 114 [.own 0,.fn 115 [] []] [some (.row 31 l.length (l.flatten.map aB))] (.tup []) [some (.row 31 (aA l).length ((aA l).flatten.map aB))] :=
 aRn (k:=2) (vS Nn) (by omega)
  (fun blk cap d w hH hb hd=>AnyQ.slices_SortFunc Tryz.sortSk 2 Tryz.isAgg31 Tryz.sizeOf31 (oR 2) (aGf 2) (aGg 2) cfL cNr 115 #[] blk 0 cap d w (enters_of func115 (by kernel_rfl) rfl)
   (fun m os dk _ x y=>cNp (x.getD 0 0) (x.getD 1 0) (y.getD 0 0) (y.getD 1 0) _) hH hb hd)
  (fun p cap fv w=>AnyF.slices_SortFunc_none Tryz.sortSk p cap fv w) l hu hn hl
theorem bJz(l:Lqq)(hu:uni 6 l)(hn:(aP l 0).Nodup)(hl:l.length≤1000):FMM Tp 117 [.own 0,.fn 118 [] []] [some (.row 44 l.length (l.flatten.map aB))] (.tup []) [some (.row 44 (aA l).length ((aA l).flatten.map aB))] :=
 aRn (k:=6) (vS Np) (by omega)
  (fun blk cap d w hH hb hd=>AnyQ.slices_SortFunc Tryz.sortDc 6 Tryz.isAgg44 Tryz.sizeOf44 (oR 6) (aGf 6) (aGg 6) cfL cNr 118 #[] blk 0 cap d w (enters_of func118 (by kernel_rfl) rfl)
   (fun m os dk _ x y=>cNq (x.getD 0 0) (x.getD 1 0) (x.getD 2 0) (x.getD 3 0) (x.getD 4 0) (x.getD 5 0) (y.getD 0 0) (y.getD 1 0) (y.getD 2 0) (y.getD 3 0) (y.getD 4 0) (y.getD 5 0) _) hH hb hd)
  (fun p cap fv w=>AnyF.slices_SortFunc_none Tryz.sortDc p cap fv w) l hu hn hl
end KV
end Go.Proofs
end
section
namespace Go.Proofs
open Go.RowKit Go.Lib Go.Shelf
namespace KV
open Tryz

theorem bJx{f ty k:Nat}(hsz:∃ i,Tryz.prog.info? ty=some i∧i.size=k)
  (h:∀ (p:Option Addr) (c:Nat) (w:World),Calls Tp f #[.slice p 0 c] w fun e w'=>∃ v',e = .returned v'∧w'.ownsRow w.heap.size ty k v' 0 []∧Below w.heap.size w w') {base:Nat} :
  FV Tp f [.p (.sl 0 [])] base (.own base) [(base,.row ty 0 [])]:=by
 refine ⟨.own 0,[some (.row ty 0 [])],fun C w us hus hM n => ?_,by simp [bDf,bPz,gH,cB,bQa,bDe]⟩
 obtain ⟨u,rfl,hu⟩:=zB hus;cases hu with
 | p _ _ hu =>
  have K9:∃ p c,u = .slice p 0 c:=by cases hu with | sl n cs p cap us h1 h2 h3 h4 h5=>exact ⟨p,cap,rfl⟩
  obtain ⟨p,c,rfl⟩:=K9;refine (callsIn_wide.2 (h p c w)).mono ?_;rintro e w' ⟨v',rfl,h1,h2⟩;have D2:∀ (id:Nat) (o:AO),([some (.row ty 0 [])]:Mem)[id]? = some (some o)→id=0∧o = .row ty 0 []:=fun id o h=>by
   cases id with
   | zero=>simp at h;exact ⟨rfl,h.symm⟩
   | succ i=>simp at h
  have hno:∀ (id:Nat) (o:AO),¬ (([]:Mem)[id]? = some (some o)):=fun id o h=>by simp at h
  have hc:(v' = .slice none 0 0)∨∃ g cap cur,v' = .slice (some ⟨g,0,none⟩) 0 cap∧w.heap.size≤g∧w'.heap[g]? = some (.cells cur ty (0,0))∧cap≤maxLen∧cur.size=cap*k:=by
   rcases h1.2 with ⟨he,h0⟩ | ⟨g,cp,cur,he,hg,hh,r1,r2,r3,r4⟩
   ·exact .inl he
   ·exact .inr ⟨g,cp,cur,he,hg,hh,r2,r3⟩
  have new:∀ b,v'.ownBlock=some b→w.heap.size≤b∧b<w'.heap.size:=fun b hb=>by
   rcases hc with rfl | ⟨g,cap,cur,rfl,hg,hh,_⟩
   ·cases hb
   ·cases hb;exact ⟨hg,lt_of_block hh⟩
  refine ⟨_,rfl,{ ι:=fun _=>v'.ownBlock,κ:=fun _=>(match v' with | .slice _ _ c=>c | _=>0),F:=C.F },⟨h2.os,h2.tape,h2.output,h2.size,fun b hb _=>h2.block b hb,fun id o h=>absurd h (hno id o),fun id o h=>absurd h (hno id o),fun id o h=>absurd h (hno id o),fun id o b hm hl hb => .inl (new b hb).1,fun _ h=>h,fun _ h => .inl h⟩,
   ⟨fun id ty n cs hm => ?_,fun id ty cs hm => ?_,fun id es cl hm => ?_,fun id G2 o o' b q1 _ q2 _ _ _ => ?_,fun id o b hm hl hb hf => ?_,fun b hb=>gF (hM.Fs b hb) h2.size,fun id o b hm hl hb=>(new b hb).2⟩,?_⟩
  ·obtain ⟨rfl,he⟩:=D2 _ _ hm
   cases he
   rcases hc with rfl | ⟨g,cap,cur,rfl,_,hh,r2,r3⟩
   ·exact .inl ⟨rfl,rfl,rfl⟩
   ·obtain ⟨i,hi,hs⟩:=hsz
    exact .inr ⟨g,cur,i,rfl,hh,hi,by rw [hs];exact r3,by simp,Nat.zero_le _,r2,fun j h=>by simp at h,fun j h=>by simp at h⟩
  ·obtain ⟨_,he⟩:=D2 _ _ hm;cases he
  ·obtain ⟨_,he⟩:=D2 _ _ hm;cases he
  ·obtain ⟨rfl,_⟩:=D2 _ _ q1
   obtain ⟨rfl,_⟩:=D2 _ _ q2;rfl
  ·have:=hM.Fs _ hf
   have:=(new b hb).1;omega
  ·have h0:v'.oneCell'=true:=by rcases hc with rfl | ⟨g,cap,cur,rfl,_⟩ <;> rfl
   refine .own 0 _ h0 ⟨_,rfl⟩ fun Du n cs hm => ?_
   obtain ⟨_,he⟩:=D2 _ _ hm;cases he
   rcases hc with rfl | ⟨g,cap,cur,rfl,_⟩
   ·exact .inl ⟨rfl,rfl,rfl⟩
   ·exact .inr ⟨g,rfl,rfl⟩
end KV
end Go.Proofs
end
