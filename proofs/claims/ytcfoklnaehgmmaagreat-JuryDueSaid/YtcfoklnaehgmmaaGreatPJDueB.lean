/- Parts of the proof of JDue: laws of walks, contracts of functions, plain models. No condition. -/
import Derived.Test.YtcfoklnaehgmmaaGreatProg
import Derived.ProofKit
import Derived.Carry
import Derived.Deep.Slices
import Derived.RangeFuncLeaves
import Derived.OwnWalkIn
import Derived.TacticsInMore
import Derived.Test.YtcfoklnaehgmmaaGreatPJDueA
set_option linter.unusedVariables false
set_option linter.unusedSimpArgs false
set_option maxRecDepth 100000
namespace Go.Proofs
namespace KV
open Tryz
section
variable {P:Program} {T:TT} {E:Env} {C C0:Cx} {M M0:Mem} {w w0:World}

def cost(o:Oper):Nat:=match o.op with
 | .alloc _ | .box _ _ | .buildSlice _ _ _ | .makeSlice _ _ _=>1
 | .call c=>match c.callee with
  | .builtin _=>1
  | _=>8
 | _=>0
def ido(ops:List Oper)(base k:Nat):Nat:=base+((ops.take k).map cost).sum

abbrev uE:=AV × Upd × Option (List Nat)
def zO(q:uE):Ft:=⟨q.2.2,q.2.1.map (·.1)⟩

def aSo(o:Oper)(vs:List AV)(m:Mem)(id:Nat):Ask (Option (List Nat)):=fun s=>some (fpQ o vs m id s,s)
theorem bDh{o:Oper}{vs:List AV}{m:Mem}{id:Nat}{s s':AS}{b:Option (List Nat)}(h:aSo o vs m id s=some (b,s')):b=fpQ o vs m id s∧s'=s:=by
 unfold aSo at h
 cases h;exact ⟨rfl,rfl⟩
theorem aMu{o:Oper}{vs:List AV}{m:Mem}{id:Nat}:bP (aSo o vs m id):=fun s r s' e p hp=>by obtain ⟨_,rfl⟩:=bDh e;exact hp
def aMv(P:Program)(T:TT)(E:Env)(ops:List Oper):List Oper→Nat→St→Ask (List Ft × St)
 | [],_,st=>pure ([],st)
 | o::r,id,st=>do
  let go ← gW ops o st
  match go with
  | true=>do
   let vs ← lift (evs st o.op.operands.toList)
   let fp ← aSo o vs st.m id
   let q ← lP P T E o vs st.m id
   let y ← aMv P T E ops r (id+cost o) ⟨put st.t o.dst q.1,upds st.m q.2⟩
   pure (⟨fp,q.2.map (·.1)⟩::y.1,y.2)
  | false=>do
   let y ← aMv P T E ops r (id+cost o) ⟨put st.t o.dst (.tup []),st.m⟩
   pure (⟨some [],[]⟩::y.1,y.2)

def pF(ops:Array Oper):Nat→Nat→Nat→Bool
 | 0,_,_=>false
 | n+1,k,j=>match ops[j]? with
  | some oj=>(oj.after.any fun e=>Region.binds .any e && e.on == k) || oj.after.any fun e=>Region.binds .any e && pF ops n k e.on
  | none=>false
def aGd(ops:Array Oper)(k:Nat)(f:Ft):Nat→List Ft→Bool
 | _,[]=>true
 | j,g::r=>(aMy f g || pF ops 5 k j) && aGd ops k f (j+1) r
def aGe(ops:Array Oper):Nat→List Ft→Bool
 | _,[]=>true
 | k,f::r=>aGd ops k f (k+1) r && aGe ops (k+1) r

def next(o:Oper)(q:uE)(st:St):St:=⟨put st.t o.dst q.1,upds st.m q.2.1⟩

inductive aJe (P:Program) (T:TT) (E:Env) (ops:List Oper):Nat→List Oper→St→List uE→St→Prop
 | nil (id:Nat) (st:St):aJe P T E ops id [] st [] st
 | cons (id:Nat) (o:Oper) (l:List Oper) (st:St) (q:uE) (os:List uE) (fin:St) (h:pH P T E ops o id st q.1 q.2.1 q.2.2) (hr:aJe P T E ops (id+cost o) l (next o q st) os fin):aJe P T E ops id (o::l) st (q::os) fin

theorem nC{ops:List Oper}:∀ {l:List Oper} {id:Nat} {st:St},bP (aMv P T E ops l id st)
 | [],_,_=>aJ _
 | _::_,_,_=>by
  unfold aMv;refine aY aAd fun _ => ?_
  split
  ·exact aI fun _=>aY aMu fun _=>aY nU fun _=>aY nC fun _=>aJ _
  ·exact aY nC fun _=>aJ _

theorem pG{ops:List Oper}:∀ (l:List Oper) (id:Nat) {st fin:St} {fts:List Ft} {s s':AS},aMv P T E ops l id st s=some ((fts,fin),s')→aW s'→∃ os:List uE,fts=os.map zO∧aJe P T E ops id l st os fin
 | [],id,st,fin,fts,s,s',h,g=>by
  obtain ⟨he,rfl⟩:=aH h;cases he;exact ⟨[],rfl,.nil _ _⟩
 | o::l,id,st,fin,fts,s,s',h,g=>by
  unfold aMv at h
  obtain ⟨go,s1,h1,k1⟩:=aD h;cases go with
  | true =>
   obtain ⟨vs,s2,h2,k2⟩:=aD k1;obtain ⟨e2,rfl⟩:=aE h2;obtain ⟨au,sa,ha,ka⟩:=aD k2;obtain ⟨rfl,rfl⟩:=bDh ha;obtain ⟨q,s3,h3,k3⟩:=aD ka;obtain ⟨y,s4,h4,k4⟩:=aD k3;obtain ⟨he,rfl⟩:=aH k4;cases he;obtain ⟨os,e5,hl⟩:=pG l _ (fts:=y.1) (fin:=y.2) h4 g;have g3:=nC.good h4 g;exact ⟨(q.1,q.2,fpQ o vs st.m id sa)::os,by rw [gT,e5];rfl,.cons _ _ _ _ (q.1,q.2,fpQ o vs st.m id sa) _ _ ⟨s,sa,.inr ⟨h1,vs,s3,e2,h3,g3,rfl⟩⟩ hl⟩
  | false =>
   obtain ⟨y,s4,h4,k4⟩:=aD k1;obtain ⟨he,rfl⟩:=aH k4;cases he;obtain ⟨os,e5,hl⟩:=pG l _ (fts:=y.1) (fin:=y.2) h4 g;exact ⟨(.tup [],[],some [])::os,by rw [gT,e5];rfl,.cons _ _ _ _ (.tup [],[],some []) _ _ ⟨s,s1,.inl ⟨h1,nC.good h4 g,rfl,rfl,rfl⟩⟩ hl⟩

def nD(P:Program)(T:TT)(E:Env)(ops:List Oper)(base:Nat)(out:Nat→uE)(fin:St):Nat→Array Bool→St→Prop
 | 0,listed,st=>Region.ready .any ops.toArray listed=[]∧st=fin
 | fuel+1,listed,st=>(Region.ready .any ops.toArray listed=[]→st=fin) ∧
  ∀ j∈Region.ready .any ops.toArray listed,∃ o,ops[j]? = some o∧pH P T E ops o (ido ops base j) st (out j).1 (out j).2.1 (out j).2.2∧nD P T E ops base out fin fuel (listed.setIfInBounds j true) (next o (out j) st)

def zP(ops:List Oper)(listed:Array Bool):Prop:=∀ j oj,ops[j]? = some oj→listed.getD j false=true→∀ e∈oj.after,Region.binds .any e=true→listed.getD e.on false=true

theorem aEe{ops:List Oper}{listed:Array Bool}{i:Nat}(hc:zP ops listed)(hi:listed.getD i false=false):∀ (n j:Nat),(∀ oj,ops[j]? = some oj→∀ e∈oj.after,Region.binds .any e=true→listed.getD e.on false=true)→pF ops.toArray n i j=false
 | 0,_,_=>rfl
 | n+1,j,h=>by
  unfold pF;cases hj:ops[j]? with
  | none=>simp [hj]
  | some oj =>
   simp only [List.getElem?_toArray,hj,Bool.or_eq_false_iff];refine ⟨?_,?_⟩
   ·rw [Bool.eq_false_iff]
    intro hw;obtain ⟨e,he,hb⟩:=Array.any_eq_true'.1 hw;simp only [Bg,beq_iff_eq] at hb
    have:=h oj hj e he hb.1;rw [hb.2,hi] at this
    cases this
   ·rw [Bool.eq_false_iff]
    intro hw;obtain ⟨e,he,hb⟩:=Array.any_eq_true'.1 hw;simp only [Bg] at hb
    have h1:=h oj hj e he hb.1;rw [aEe hc hi n e.on (fun o ho e' Oy Aj=>hc e.on o ho h1 e' Oy Aj)] at hb
    cases hb.2

theorem zQ{ops:List Oper}{listed:Array Bool}{j:Nat}(hc:zP ops listed)(hj:∀ oj,ops[j]? = some oj→∀ e∈oj.after,Region.binds .any e=true→listed.getD e.on false=true):zP ops (listed.setIfInBounds j true):=fun k ok hk hl e he hb=>by
 refine getD_set_true ?_
 by_cases h:j=k
 ·subst h;exact hj ok hk e he hb
 ·rw [getD_set_ne false h] at hl
  exact hc k ok hk hl e he hb

theorem nD.first{ops:List Oper}{base:Nat}{out:Nat→uE}{fin:St}{i:Nat}{oi:Oper}(hi:ops[i]? = some oi):∀ (fuel:Nat) (listed:Array Bool) (st:St),
  (∀ j oj,ops[j]? = some oj→j≠i→listed.getD j true=false→(∀ e∈oj.after,Region.binds .any e=true→e.on≠i)→oi.apart ops.toArray oj=true∧(aMy (zO (out i)) (zO (out j))=true∨pF ops.toArray 5 i j=true))→zP ops listed →
  i∈Region.ready .any ops.toArray listed→pH P T E ops oi (ido ops base i) st (out i).1 (out i).2.1 (out i).2.2→nD P T E ops base out fin fuel (listed.setIfInBounds i true) (next oi (out i) st)→nD P T E ops base out fin (fuel+1) listed st:=by
 intro fuel
 induction fuel with
 | zero =>
  intro listed st _ _ hr hs H;refine ⟨fun h=>(by rw [h] at hr;cases hr),fun j hj => ?_⟩
  by_cases hji:j=i
  ·subst hji;exact ⟨oi,hi,hs,H⟩
  ·have:=ready_mono hj hji
   rw [H.1] at this
   cases this
 | succ fuel ih =>
  intro listed st hfree hcl hr hs H;refine ⟨fun h=>(by rw [h] at hr;cases hr),fun j hj => ?_⟩
  by_cases hji:j=i
  ·subst hji;exact ⟨oi,hi,hs,H⟩
  ·obtain ⟨oj,hoj,hsj,hH⟩:=H.2 j (ready_mono hj hji)
   obtain ⟨hjun,Kq,K5,hall⟩:=mem_ready.1 hj;have:Kq=oj:=by
    rw [List.getElem?_toArray,hoj] at K5
    cases K5;rfl
   subst this;have hnot:∀ e∈Kq.after,Region.binds .any e=true→e.on≠i:=fun e he hb heq=>by
    have h1:=hall e he hb;have h0:=(mem_ready.1 hr).1;rw [heq] at h1
    rcases Nat.lt_or_ge i listed.size with h' | h'
    ·simp [h'] at h0 h1;rw [h0] at h1;cases h1
    ·simp [Array.getElem?_eq_none h'] at h1
   have Iy:listed.getD j true=false:=by
    rcases Nat.lt_or_ge j listed.size with h' | h'
    ·simpa [h'] using hjun
    ·exact hjun
   obtain ⟨hap,hok⟩:=hfree j Kq hoj hji Iy hnot;have hjall:∀ oj,ops[j]? = some oj→∀ e∈oj.after,Region.binds .any e=true→listed.getD e.on false=true:=fun o ho e he hb=>by
    rw [hoj] at ho;cases ho;exact hall e he hb
   have hiun:listed.getD i false=false:=by
    have h0:=(mem_ready.1 hr).1
    rcases Nat.lt_or_ge i listed.size with h' | h'
    ·simp [h'] at h0 ⊢;exact h0
    ·simp [Nat.not_lt.2 h']
   replace hok:=hok.resolve_right (by rw [aEe hcl hiun 5 j hjall];simp)
   obtain ⟨m1,m2,m3,m4⟩:=pH.move hap hok hs hsj;have hnx:next Kq (out j) (next oi (out i) st)=next oi (out i) (next Kq (out j) st):=by
    unfold next;simp only [m3,m4]
   refine ⟨Kq,hoj,m1,ih _ _ (fun k ok hk hki hun hno=>hfree k ok hk hki ?_ hno) (zQ hcl hjall) (ready_mono hr (Ne.symm hji)) m2 ?_⟩
   ·by_cases hjk:j=k
    ·subst hjk;exact Iy
    ·rw [getD_set_ne true hjk] at hun;exact hun
   ·rw [hnx,Array.setIfInBounds_comm _ _ (Ne.symm hji)] at hH
    exact hH

theorem bDi{ops:List Oper}{base k:Nat}{o:Oper}(h:ops[k]? = some o):ido ops base (k+1)=ido ops base k+cost o:=by
 unfold ido;rw [List.take_add_one,h];simp [Nat.add_assoc]

theorem nD.lex{ops:List Oper}{base:Nat}{out:Nat→uE}{fin:St}:∀ (l:List Oper) (k:Nat) (listed:Array Bool) (st:St) (os:List uE),(∀ j,l[j]? = ops[k+j]?)→(∀ j q,os[j]? = some q→out (k+j)=q)→(∀ j,j<k→listed.getD j true=true)→zP ops listed →
  (∀ i j,k≤i→i<j→(ops[j]?).isSome→aMy (zO (out i)) (zO (out j))=true∨pF ops.toArray 5 i j=true) →
  Region.lexFrom .any ops.toArray l.length k listed=true→aJe P T E ops (ido ops base k) l st os fin→nD P T E ops base out fin l.length listed st
 | [],k,listed,st,os,_,_,_,_,_,hB,h=>by
  cases h;exact ⟨by simpa [Region.lexFrom] using hB,rfl⟩
 | o::l,k,listed,st,os,hl,ho,hk,hcl,hA,hB,h=>by
  cases h with
  | cons _ _ _ _ q os _ hs hr =>
   have h0:ops[k]? = some o:=by simpa using (hl 0).symm
   have hq:out k=q:=ho 0 q rfl;simp only [pY,Region.lexFrom,Bg] at hB
   obtain ⟨⟨hrd,hf⟩,Oz⟩:=hB;have Q7:ops.toArray[k]? = some o:=by rw [List.getElem?_toArray];exact h0
   have K6:k∈Region.ready .any ops.toArray listed:=by simpa using hrd
   have hkall:∀ oj,ops[k]? = some oj→∀ e∈oj.after,Region.binds .any e=true→listed.getD e.on false=true:=fun o' Co e he hb=>by
    obtain ⟨_,o2,Iz,hall⟩:=mem_ready.1 K6;rw [Q7] at Iz;cases Iz
    rw [h0] at Co;cases Co
    exact hall e he hb
   refine nD.first h0 l.length listed st (fun j oj hj hjk hun hno => ?_) hcl K6 (by rw [hq];exact hs) ?_
   ·refine ⟨Region.free_spec Q7 hf j oj (by rw [List.getElem?_toArray];exact hj) hjk hun hno,?_⟩
    have hlt:k<j:=by
     rcases Nat.lt_trichotomy k j with h1 | h1 | h1
     ·exact h1
     ·exact absurd h1.symm hjk
     ·rw [hk j h1] at hun;cases hun
    exact hA k j (cP _) hlt (by rw [hj];rfl)
   ·rw [hq]
    refine nD.lex l (k+1) _ _ os (fun j=>by have:=hl (j+1);simpa [Nat.add_assoc,Nat.add_comm 1 j] using this) (fun j q' hj=>by have:=ho (j+1) q' (by simpa using hj);rw [← this];congr 1;omega) (fun j hj => ?_) (zQ hcl hkall)
     (fun i j hi=>hA i j (by omega)) Oz (by rw [bDi h0];exact hr)
    by_cases e:k=j
    ·subst e
     rcases Nat.lt_or_ge k listed.size with h' | h'
     ·simp [h']
     ·simp [Nat.not_lt.2 h']
    ·rw [getD_set_ne true e];exact hk j (by omega)

theorem xN{ops:Array Oper}{k:Nat}{f:Ft}:∀ (l:List Ft) (j:Nat),aGd ops k f j l=true→∀ i g,l[i]? = some g→aMy f g=true∨pF ops 5 k (j+i)=true
 | [],_,_,i,g,h=>by simp at h
 | x::l,j,h,i,g,hi=>by
  unfold aGd at h
  rw [Bg,aKt] at h
  cases i with
  | zero=>simp at hi;subst hi;exact h.1
  | succ i =>
   have:=xN l (j+1) h.2 i g (by simpa using hi)
   rwa [show j+1+i=j+(i+1) by omega] at this
theorem lK{ops:Array Oper}:∀ (l:List Ft) (k:Nat),aGe ops k l=true→∀ i j f g,i<j→l[i]? = some f→l[j]? = some g→aMy f g=true∨pF ops 5 (k+i) (k+j)=true
 | [],_,_,i,j,f,g,_,h,_=>by simp at h
 | x::l,k,h,i,j,f,g,hij,hi,hj=>by
  unfold aGe at h
  rw [Bg] at h
  cases j with
  | zero=>omega
  | succ j =>
   cases i with
   | zero =>
    simp at hi;subst hi
    have:=xN l (k+1) h.1 j g (by simpa using hj)
    rwa [show k+1+j=k+(j+1) by omega] at this
   | succ i =>
    have:=lK l (k+1) h.2 i j f g (by omega) (by simpa using hi) (by simpa using hj)
    rwa [show k+1+i=k+(i+1) by omega,show k+1+j=k+(j+1) by omega] at this

theorem nD.sound(hT:∀ t i,T t=some i→bU P t=some i)(hE:kI P E){ops:List Oper}{base:Nat}{out:Nat→uE}{fin:St}{ro:Option Nat}{n:Nat}{Q:Exit→Act→World→Prop}(hQ:∀ a' w',Sim P C0 M0 w0 fin a' w'→Q .normal a' w') :
  ∀ (fuel:Nat) (listed:Array Bool) (st:St) (a:Act) (w:World),nD P T E ops base out fin fuel listed st→Sim P C0 M0 w0 st a w→wpAnyIn (Fen ro) n P .any ops.toArray Q fuel listed a w
 | 0,listed,st,a,w,h,hs=>⟨h.1,hQ _ _ (h.2 ▸ hs)⟩
 | fuel+1,listed,st,a,w,h,hs=>by
  refine ⟨fun h0=>hQ _ _ (h.1 h0 ▸ hs),fun j hj => ?_⟩
  obtain ⟨o,ho,hst,hr⟩:=h.2 j hj;have:=hst.op hT hE C0 M0 w0 a w hs ro n (wpAnyIn (Fen ro) n P .any ops.toArray Q fuel (listed.setIfInBounds j true)) Q (fun a' w' Bt=>nD.sound hT hE hQ fuel _ _ _ _ hr Bt)
  unfold wpOpIn;simp only [List.getElem?_toArray,ho];exact this
end
section
variable {P:Program} {T:TT} {E:Env} {C C0:Cx} {M M0:Mem} {w w0:World}

mutual
def fzA(id n:Nat)(cs:List PV):AV→AV
 | .own i=>match Nat.beq i id with
  | true => .p (.sl n cs)
  | false => .own i
 | .arr i off k=>match Nat.beq i id with
  | true => .p (.sl k ((cs.drop off).take (k*(cs.length / n))))
  | false => .arr i off k
 | .ptr i off=>match Nat.beq i id with
  | true => .rp cs off
  | false => .ptr i off
 | .agg l=>iT (fzL id n cs l)
 | .tup l => .tup (fzL id n cs l)
 | .fn f a b => .fn f (fzL id n cs a) (fzL id n cs b)
 | .p x => .p x
 | .rp cs o => .rp cs o
 | .yld l => .yld l
 | .kb b => .kb b
 | .mp i => .mp i
 | .pa i q => .pa i q
 | .any => .any
def fzL(id n:Nat)(cs:List PV):List AV→List AV
 | []=>[]
 | x::r=>fzA id n cs x::fzL id n cs r
end

theorem uC(id n:Nat)(cs:List PV):∀ l:List AV,(fzL id n cs l).length=l.length
 | []=>by simp [fzL]
 | x::r=>by simp [fzL,uC id n cs r]

section
variable {id ty n:Nat} {cs:List PV} (hM:aO P C M w) (ho:M[id]? = some (some (.row ty n cs)))
include hM ho
mutual
theorem aEd:∀ {x:AV} {u:Value},Rep C M w x u→Rep (C.close id true) (aT M id (some .dead)) w (fzA id n cs x) u
 | .own i,u,h=>by
  have hL:=hM.le (cE true ho rfl);simp only [fzA]
  split
  ·rename_i hb
   have:=Nat.eq_of_beq_eq_true hb;subst this;exact .p _ _ (tI hM ho h)
  ·exact h.mono hL
 | .arr i off k,u,h=>by
  have hL:=hM.le (cE true ho rfl);simp only [fzA]
  split
  ·rename_i hb
   have:=Nat.eq_of_beq_eq_true hb;subst this;cases h with
   | arr _ _ _ u h0 ha hrow =>
    rcases hrow _ ho rfl with ⟨rfl,p,cap,rfl,hc⟩ | ⟨b,cap,rfl,hn,hc,hb⟩
    ·rw [Nat.zero_mul,List.take_zero]
     exact .p _ _ (.sl 0 [] p cap (fun _=>undef) (Nat.zero_le _) hc (fun i h=>by simp at h) (fun i h=>by simp at h) (fun i h=>by simp at h))
    ·rcases hM.row _ _ _ _ ho with ⟨D5,_⟩ | ⟨b',arr,inf,Aj,q1,q2,q3,q4,q5,q6,q7,q8⟩
     ·rw [hb] at D5;cases D5
     ·rw [hb] at Aj;cases Aj
      have hle:cs.length≤arr.size:=by rw [q3,q4];exact Nat.mul_le_mul_right _ q5
      have hlt:∀ i,i<((cs.drop off).take (k*(cs.length / n))).length→off+i<cs.length:=fun i hi=>by simp at hi;omega
      refine .p _ _ (.sl k _ _ cap (fun j=>arr.getD (off+j) undef) hn hc (fun j hj=>⟨b,off,rfl,.inr ⟨rfl,hb⟩,bH q1 (by have:=hlt j hj;omega)⟩) (fun j hj => ?_) (fun j hj=>q8 _ (hlt j hj)))
      simp only [List.getElem_take,List.getElem_drop];exact (q7 _ (hlt j hj)).mono (fun _ h => .inl h) (fun _ _=>rfl)
  ·exact h.mono hL
 | .ptr i off,u,h=>by
  have hL:=hM.le (cE true ho rfl);simp only [fzA]
  split
  ·rename_i hb
   have:=Nat.eq_of_beq_eq_true hb;subst this;obtain ⟨b,rfl,hb⟩:=fJ h (gX ho rfl)
   rcases hM.row _ _ _ _ ho with ⟨hn,_⟩ | ⟨b',arr,inf,Aj,q1,q2,q3,q4,q5,q6,q7,q8⟩
   ·rw [hb] at hn;cases hn
   ·rw [hb] at Aj;cases Aj
    have hle:cs.length≤arr.size:=by rw [q3,q4];exact Nat.mul_le_mul_right _ q5
    have:=Rep.rp (C:=C.close i true) (M:=aT M i (some .dead)) (w:=w) cs off b 0 (fun j=>arr.getD j undef) (fun i hi=>⟨.inr ⟨rfl,hb⟩,by rw [fE];exact bH q1 (by omega)⟩) (fun i hi=>(q7 i hi).mono (fun _ h => .inl h) (fun _ _=>rfl)) q8
    rwa [fE] at this
  ·exact h.mono hL
 | .agg l,u,h=>by
  cases h with
  | agg _ vs h0 h1 h2 =>
   simp only [fzA];obtain ⟨q1,q2⟩:=jF (us:=fun i=>vs.getD i undef) h2
   exact jU (fun i hi=>h0 i (by omega)) (by omega) q2
 | .tup l,u,h=>by
  cases h with
  | tup _ vs h1 h2 =>
   simp only [fzA];obtain ⟨q1,q2⟩:=jF (us:=fun i=>vs.getD i undef) h2
   exact .tup _ _ (by omega) q2
 | .fn f a b,u,h=>by
  cases h with
  | fn _ _ _ us vs h1 h2 h3 h4 =>
   simp only [fzA];obtain ⟨q1,q2⟩:=jF (us:=fun i=>us.getD i undef) h3
   obtain ⟨r1,r2⟩:=jF (us:=fun i=>vs.getD i undef) h4
   exact .fn f _ _ us vs (by omega) (by omega) q2 r2
 | .p x,u,h=>by simp only [fzA];exact h.mono (hM.le (cE true ho rfl))
 | .rp cs o,u,h=>by simp only [fzA];exact h.mono (hM.le (cE true ho rfl))
 | .yld l,u,h=>by simp only [fzA];exact h.mono (hM.le (cE true ho rfl))
 | .kb b,u,h=>by simp only [fzA];exact h.mono (hM.le (cE true ho rfl))
 | .mp i,u,h=>by simp only [fzA];exact h.mono (hM.le (cE true ho rfl))
 | .pa i q,u,h=>by simp only [fzA];exact h.mono (hM.le (cE true ho rfl))
 | .any,u,h=>by simp only [fzA];exact .any _
theorem jF:∀ {l:List AV} {us:Nat→Value},(∀ i (h:i<l.length),Rep C M w l[i] (us i))→(fzL id n cs l).length=l.length∧∀ i (h:i<(fzL id n cs l).length),Rep (C.close id true) (aT M id (some .dead)) w (fzL id n cs l)[i] (us i)
 | [],_,_=>⟨uC ..,  fun i h=>by simp [fzL] at h⟩
 | x::r,us,h=>by
  refine ⟨uC ..,fun i hi => ?_⟩
  have:=hM;have:=ho;obtain ⟨_,q2⟩:=jF (l:=r) (us:=fun i=>us (i+1)) (fun i hi=>h (i+1) (by simpa using hi))
  have e:fzL id n cs (x::r)=fzA id n cs x::fzL id n cs r:=by simp only [fzL]
  simp only [e];cases i with
  | zero=>exact aEd (h 0 (by simp))
  | succ i=>exact q2 i (by simpa [uC] using hi)
end
end

def fzO(id n:Nat)(cs:List PV):Option AO→Option AO
 | some (.box ty l)=>some (.box ty (fzL id n cs l))
 | x=>x
def Ov(id:Nat)(st:St):Option St:=match eM st.m id with
 | some r=>some ⟨fzL id r.2.1 r.2.2 st.t,(aT st.m id (some .dead)).map (fzO id r.2.1 r.2.2)⟩
 | none=>none

theorem iN{id n:Nat}{cs:List PV}{m:Mem}{j:Nat}{o':AO}(h:(m.map (fzO id n cs))[j]? = some (some o')):∃ o,m[j]? = some (some o)∧fzO id n cs (some o)=some o':=by
 rw [B6] at h
 cases hm:m[j]? with
 | none=>rw [hm] at h;cases h
 | some x =>
  rw [hm] at h
  cases x with
  | none=>simp [fzO] at h
  | some o=>exact ⟨o,rfl,by simpa using h⟩
theorem aSn{id n:Nat}{cs:List PV}{o:AO}{ty k:Nat}{ds:List PV}(h:fzO id n cs (some o)=some (.row ty k ds)):o = .row ty k ds:=by cases o <;> simp [fzO] at h ⊢;exact h
theorem nB{id n:Nat}{cs:List PV}{o o':AO}(h:fzO id n cs (some o)=some o'):o'.live=o.live:=by cases o <;> (simp [fzO] at h;subst h;rfl)

theorem aVn{id:Nat}{st Ag:St}{a:Act}(hf:Ov id st=some Ag)(hs:Sim P C0 M0 w0 st a w):Sim P C0 M0 w0 Ag a w:=by
 obtain ⟨C,hS,hM,hF,hD⟩:=hs;unfold Ov at hf
 split at hf
 ·rename_i r hr
  cases hf;have ho:=cN hr;have hk:=cE (C:=C) (w:=w) true ho rfl;have hm:=lC hM true ho rfl;have hL:Le (C.close id true) (C.close id true) (aT st.m id (some .dead)) ((aT st.m id (some .dead)).map (fzO id r.2.1 r.2.2)) w w:=by
   refine ⟨fun i o h => ?_,fun i o h ty n cs hm => ?_,fun i o h o' hm hl => ?_,fun _ h=>h,fun _ _=>rfl⟩
   ·rw [B6,h]
    cases o <;> exact ⟨_,rfl⟩
   ·obtain ⟨o2,h2,h3⟩:=iN hm
    rw [aSn h3] at h2
    exact ⟨_,h2⟩
   ·obtain ⟨o2,h2,h3⟩:=iN hm
    rw [h] at h2;cases h2
    exact ⟨by rw [← nB h3];exact hl,rfl,rfl⟩
  have Jj:Fr (C.close id true) (aT st.m id (some .dead)) w (C.close id true) ((aT st.m id (some .dead)).map (fzO id r.2.1 r.2.2)) w:=by
   refine ⟨rfl,rfl,rfl,cP _,fun _ _ _=>rfl,fun i o h=>⟨hL.ids i o h,rfl,rfl⟩,hL.row,fun i o h o' hm hl=>(hL.liv i o h o' hm hl).1,fun i o b h hl hb => ?_,fun _ h=>h,fun _ h => .inl h⟩
   obtain ⟨o2,h2,h3⟩:=iN h;exact .inr ⟨i,o2,h2,by rw [← nB h3];exact hl,hb⟩
  refine ⟨C.close id true,⟨?_,fun i hi => ?_⟩,⟨fun i ty n cs h => ?_,fun i ty cs h => ?_,fun i es cl h => ?_,fun i i' o1 o2 b h1 l1 h2 l2 => ?_,fun i o b h hl => ?_,hm.Fs,fun i o b h hl => ?_⟩,(hF.trans hk).trans Jj,(hD.fr hM (fH rfl) hk).fr hm (fun i to ti sz L q=>by
   obtain ⟨o2,h2,h3⟩:=iN q;cases o2 with
   | pk=>simp only [fzO,Option.some.injEq] at h3;rw [← h3];exact h2
   | _=>simp [fzO] at h3) Jj⟩
  ·rw [uC];exact hS.size
  ·exact ((jF hM ho hS.rep).2 i hi).mono hL
  ·obtain ⟨o2,h2,h3⟩:=iN h
   rw [aSn h3] at h2
   exact hm.row _ _ _ _ h2
  ·obtain ⟨o2,h2,h3⟩:=iN h
   cases o2 with
   | box Cb l =>
    simp only [fzO,Option.some.injEq,AO.box.injEq] at h3
    obtain ⟨rfl,rfl⟩:=h3;have hne:i≠id:=fun e=>by
     subst e;rw [aS] at h2;cases h2
    obtain ⟨b,arr,q0,q1,q2,q3,q4⟩:=hM.box _ _ _ ((aN st.m id i _ _ (Ne.symm hne)).1 h2);obtain ⟨r1,r2⟩:=jF hM ho (us:=fun j=>arr.getD j undef) q3
    exact ⟨b,arr,q0,q1,by rw [r1];exact q2,fun j hj=>(r2 j hj).mono hL,fun j hj=>q4 j (by rw [r1] at hj;exact hj)⟩
   | row=>simp [fzO] at h3
   | mp=>simp [fzO] at h3
   | pk=>simp [fzO] at h3
   | dead=>simp [fzO] at h3
  ·obtain ⟨o2,h2,h3⟩:=iN h
   have:o2 = .mp es cl:=by cases o2 <;> simp [fzO] at h3 ⊢;exact h3
   subst this;obtain ⟨b,arr,q0,q1,q2,q3⟩:=hm.mp _ _ _ h2;refine ⟨b,arr,q0,q1,q2,fun j hj => ?_⟩
   obtain ⟨en,r1,r2,r3,r4⟩:=q3 j hj;exact ⟨en,r1,r2,r3,r4.mono hL.F hL.fz⟩
  ·obtain ⟨o3,h3,h4⟩:=iN h1
   obtain ⟨o5,h5,h6⟩:=iN h2;exact hm.inj i i' o3 o5 b h3 (by rw [← nB h4];exact l1) h5 (by rw [← nB h6];exact l2)
  ·obtain ⟨o3,h3,h4⟩:=iN h
   exact hm.nF i o3 b h3 (by rw [← nB h4];exact hl)
  ·obtain ⟨o3,h3,h4⟩:=iN h
   exact hm.lt i o3 b h3 (by rw [← nB h4];exact hl)
 ·cases hf

def forget:List Nat→List AV→List AV
 | [],l=>l
 | i::r,l=>forget r (l.set i .any)
theorem uD:∀ (g:List Nat) {ts:List AV} {us:Array Value},dO C M w ts us→dO C M w (forget g ts) us
 | [],_,_,h=>h
 | i::r,ts,us,h=>by
  refine uD r ⟨by simpa using h.size,fun j hj => ?_⟩
  simp only [nJ] at hj
  rw [wH]
  split
  ·exact .any _
  ·exact h.rep j hj
theorem aGc(g:List Nat){st:St}{a:Act}(hs:Sim P C0 M0 w0 st a w):Sim P C0 M0 w0 ⟨forget g st.t,st.m⟩ a w:=by
 obtain ⟨C,hS,hM,hF,hD⟩:=hs;exact ⟨C,uD g hS,hM,hF,hD⟩
end
section
variable {P:Program} {T:TT} {E:Env} {C C0:Cx} {M M0:Mem} {w w0:World}

def Cx.shut(C:Cx)(id:Nat):Cx:={ ι:=C.ι,κ:=C.κ,F:=fun b=>C.F b∨aNo (C.κ id) b }
section
variable {id to ti sz:Nat} {L:List (Nat × List PV)}
variable (q:aNp C M w id to ti sz L) (ho:M[id]? = some (some (.pk to ti sz L))) (hL:Le C (C.shut id) M (aT M id (some .dead)) w w)
include q ho hL
end

def fzP(id:Nat)(st:St):Option St:=none
theorem aVl{id:Nat}{st Ag:St}{a:Act}(h:fzP id st=some Ag)(hs:Sim P C0 M0 w0 st a w):Sim P C0 M0 w0 Ag a w:=by
 unfold fzP at h
 cases h
def nlP(i to ti sz:Nat)(st:St):Option St:=none
theorem aVm{i to ti sz:Nat}{st Ag:St}{a:Act}(h:nlP i to ti sz st=some Ag)(hs:Sim P C0 M0 w0 st a w):Sim P C0 M0 w0 Ag a w:=by
 unfold nlP at h
 cases h
end
section
variable {P:Program} {T:TT} {E:Env} {C C0:Cx} {M M0:Mem} {w w0:World}

inductive Cz where
 | bx (cs:List PV)
 | mp (es:List (Value × PV))
mutual
def czA(id:Nat)(y:Cz):AV→AV
 | .ptr i off=>match Nat.beq i id with
  | true=>match y with
   | .bx cs => .rp cs off
   | .mp _ => .ptr i off
  | false => .ptr i off
 | .mp i=>match Nat.beq i id with
  | true=>match y with
   | .mp es => .p (.mp es)
   | .bx _ => .mp i
  | false => .mp i
 | .agg l=>iT (czL id y l)
 | .tup l => .tup (czL id y l)
 | .fn f a b => .fn f (czL id y a) (czL id y b)
 | .own i => .own i
 | .arr i off k => .arr i off k
 | .p x => .p x
 | .rp cs o => .rp cs o
 | .yld l => .yld l
 | .kb b => .kb b
 | .pa i q => .pa i q
 | .any => .any
def czL(id:Nat)(y:Cz):List AV→List AV
 | []=>[]
 | x::r=>czA id y x::czL id y r
end
theorem uB(id:Nat)(y:Cz):∀ l:List AV,(czL id y l).length=l.length
 | []=>rfl
 | x::r=>by simp only [czL,pY,uB id y r]

def H7:AV→Option PV
 | .p x=>some x
 | .kb b=>some (.v (.bool b))
 | .rp cs off=>some (.rp cs off)
 | _=>none
def aVi:List AV→Option (List PV)
 | []=>some []
 | x::r=>match H7 x with
  | some y=>match aVi r with
   | some l=>some (y::l)
   | none=>none
  | none=>none
theorem aSl:∀ {l:List AV} {cs:List PV},aVi l=some cs→cs.length=l.length∧∀ (i:Nat) (h:i<l.length) (h':i<cs.length),H7 l[i]=some cs[i]
 | [],cs,h=>by cases h;exact ⟨rfl,fun i h=>by simp at h⟩
 | x::r,cs,h=>by
  unfold aVi at h
  split at h
  ·rename_i y hy
   split at h
   ·rename_i k hk
    cases h;obtain ⟨q1,q2⟩:=aSl hk;refine ⟨by simp [q1],fun i h1 h2 => ?_⟩
    cases i with
    | zero=>exact hy
    | succ i=>exact q2 i (by simpa using h1) (by simpa using h2)
   ·cases h
  ·cases h
theorem bDf{x:AV}{y:PV}{u:Value}(e:H7 x=some y)(h:Rep C M w x u):bW C.F w y u:=by
 cases x <;> simp [H7] at e
 ·subst e;cases h;assumption
 ·subst e;cases h;exact .rp _ _ _ _ _ ‹_› ‹_› ‹_›
 ·subst e;cases h;exact .v _
def bIm(y:Cz)(o:AO):Prop:=match y with
 | .bx cs=>∃ ty l,o = .box ty l∧aVi l=some cs
 | .mp es=>∃ cl,o = .mp es cl
theorem bIm.live{y:Cz}{o:AO}(h:bIm y o):o.live=true:=by
 cases y with
 | bx cs=>obtain ⟨ty,l,rfl,_⟩:=h;rfl
 | mp es=>obtain ⟨cl,rfl⟩:=h;rfl

section
variable {id:Nat} {y:Cz} {o:AO} (hM:aO P C M w) (ho:M[id]? = some (some o)) (hz:bIm y o)
include hM ho hz
mutual
theorem aVj:∀ {x:AV} {u:Value},Rep C M w x u→Rep (C.close id true) (aT M id (some .dead)) w (czA id y x) u
 | .ptr i off,u,h=>by
  have hL:=hM.le (cE true ho hz.live);simp only [czA]
  split
  ·rename_i hb
   have:=Nat.eq_of_beq_eq_true hb;subst this;cases y with
   | mp es=>exact h.mono hL
   | bx cs =>
    obtain ⟨ty,l,rfl,hl⟩:=hz;obtain ⟨b,rfl,hb⟩:=fJ h (gX ho rfl);obtain ⟨b',arr,Aj,q1,q2,q3,q4⟩:=hM.box _ _ _ ho;rw [hb] at Aj;cases Aj
    obtain ⟨r1,r2⟩:=aSl hl;have:=Rep.rp (C:=C.close i true) (M:=aT M i (some .dead)) (w:=w) cs off b 0 (fun j=>arr.getD j undef) (fun i hi=>⟨.inr ⟨rfl,hb⟩,by rw [fE];exact bH q1 (by omega)⟩)
     (fun i hi=>(bDf (r2 i (by omega) hi) (q3 i (by omega))).mono (fun _ h => .inl h) (fun _ _=>rfl)) (fun i hi=>q4 i (by omega))
    rwa [fE] at this
  ·exact h.mono hL
 | .mp i,u,h=>by
  have hL:=hM.le (cE true ho hz.live);simp only [czA]
  split
  ·rename_i hb
   have:=Nat.eq_of_beq_eq_true hb;subst this;cases y with
   | bx cs=>exact h.mono hL
   | mp es =>
    obtain ⟨cl,rfl⟩:=hz;obtain ⟨b,arr,rfl,hb,q1,q2,q3⟩:=aGn hM h (aZ.2 ho);refine .p _ _ (.mp es b cl arr (fun j=>(arr.getD j ⟨undef,undef,0⟩).val) (.inr ⟨rfl,hb⟩) q1 q2 (fun j hj => ?_) fun j hj => ?_)
    ·obtain ⟨e,r1,r2,r3,r4⟩:=q3 j hj
     exact ⟨e,r1,r2,r3,by rw [A4,r1];rfl⟩
    ·obtain ⟨e,r1,r2,r3,r4⟩:=q3 j hj
     rw [A4,r1];exact r4.mono (fun _ h => .inl h) (fun _ _=>rfl)
  ·exact h.mono hL
 | .agg l,u,h=>by
  cases h with
  | agg _ vs h0 h1 h2 =>
   simp only [czA];obtain ⟨q1,q2⟩:=jE (us:=fun i=>vs.getD i undef) h2
   exact jU (fun i hi=>h0 i (by omega)) (by omega) q2
 | .tup l,u,h=>by
  cases h with
  | tup _ vs h1 h2 =>
   simp only [czA];obtain ⟨q1,q2⟩:=jE (us:=fun i=>vs.getD i undef) h2
   exact .tup _ _ (by omega) q2
 | .fn f a b,u,h=>by
  cases h with
  | fn _ _ _ us vs h1 h2 h3 h4 =>
   simp only [czA];obtain ⟨q1,q2⟩:=jE (us:=fun i=>us.getD i undef) h3
   obtain ⟨r1,r2⟩:=jE (us:=fun i=>vs.getD i undef) h4
   exact .fn f _ _ us vs (by omega) (by omega) q2 r2
 | .own i,u,h=>by simp only [czA];exact h.mono (hM.le (cE true ho hz.live))
 | .arr i off k,u,h=>by simp only [czA];exact h.mono (hM.le (cE true ho hz.live))
 | .p x,u,h=>by simp only [czA];exact h.mono (hM.le (cE true ho hz.live))
 | .rp cs o,u,h=>by simp only [czA];exact h.mono (hM.le (cE true ho hz.live))
 | .yld l,u,h=>by simp only [czA];exact h.mono (hM.le (cE true ho hz.live))
 | .kb b,u,h=>by simp only [czA];exact h.mono (hM.le (cE true ho hz.live))
 | .pa i q,u,h=>by simp only [czA];exact h.mono (hM.le (cE true ho hz.live))
 | .any,u,h=>by simp only [czA];exact .any _
theorem jE:∀ {l:List AV} {us:Nat→Value},(∀ i (h:i<l.length),Rep C M w l[i] (us i))→(czL id y l).length=l.length∧∀ i (h:i<(czL id y l).length),Rep (C.close id true) (aT M id (some .dead)) w (czL id y l)[i] (us i)
 | [],_,_=>by
  have:=hM;have:=ho;have:=hz;exact ⟨uB ..,fun i h=>by simp [czL] at h⟩
 | x::r,us,h=>by
  refine ⟨uB ..,fun i hi => ?_⟩
  obtain ⟨_,q2⟩:=jE (l:=r) (us:=fun i=>us (i+1)) (fun i hi=>h (i+1) (by simpa using hi))
  have e:czL id y (x::r)=czA id y x::czL id y r:=by simp only [czL]
  simp only [e];cases i with
  | zero=>exact aVj (h 0 (by simp))
  | succ i=>exact q2 i (by simpa [uB] using hi)
end
end

def czO(id:Nat)(y:Cz):Option AO→Option AO
 | some (.box ty l)=>some (.box ty (czL id y l))
 | x=>x
def bPb(m:Mem)(id:Nat):Option Cz:=match bG m id with
 | some (.box _ l)=>(aVi l).map .bx
 | some (.mp es _)=>some (.mp es)
 | _=>none
def fzM(id:Nat)(st:St):Option St:=match bPb st.m id with
 | some y=>some ⟨czL id y st.t,(aT st.m id (some .dead)).map (czO id y)⟩
 | none=>none
theorem bDg{m:Mem}{id:Nat}{y:Cz}(h:bPb m id=some y):∃ o,m[id]? = some (some o)∧bIm y o:=by
 unfold bPb at h
 split at h
 ·rename_i ty l ho
  cases hl:aVi l with
  | none=>rw [hl] at h;cases h
  | some cs=>rw [hl] at h;cases h;exact ⟨_,aZ.1 ho,ty,l,rfl,hl⟩
 ·rename_i es cl ho
  cases h;exact ⟨_,aZ.1 ho,cl,rfl⟩
 ·cases h
theorem iM{id:Nat}{y:Cz}{m:Mem}{j:Nat}{o':AO}(h:(m.map (czO id y))[j]? = some (some o')):∃ o,m[j]? = some (some o)∧czO id y (some o)=some o':=by
 rw [B6] at h
 cases hm:m[j]? with
 | none=>rw [hm] at h;cases h
 | some x =>
  rw [hm] at h
  cases x with
  | none=>simp [czO] at h
  | some o=>exact ⟨o,rfl,by simpa using h⟩
theorem aSm{id:Nat}{y:Cz}{o:AO}{ty k:Nat}{ds:List PV}(h:czO id y (some o)=some (.row ty k ds)):o = .row ty k ds:=by cases o <;> simp [czO] at h ⊢;exact h
theorem nA{id:Nat}{y:Cz}{o o':AO}(h:czO id y (some o)=some o'):o'.live=o.live:=by cases o <;> (simp [czO] at h;subst h;rfl)

theorem aVk{id:Nat}{st Ag:St}{a:Act}(hf:fzM id st=some Ag)(hs:Sim P C0 M0 w0 st a w):Sim P C0 M0 w0 Ag a w:=by
 obtain ⟨C,hS,hM,hF,hD⟩:=hs;unfold fzM at hf
 split at hf
 ·rename_i y hr
  cases hf;obtain ⟨o,ho,hz⟩:=bDg hr;have hk:=cE (C:=C) (w:=w) true ho hz.live;have hm:=lC hM true ho hz.live;have hL:Le (C.close id true) (C.close id true) (aT st.m id (some .dead)) ((aT st.m id (some .dead)).map (czO id y)) w w:=by
   refine ⟨fun i o h => ?_,fun i o h ty n cs hm => ?_,fun i o h o' hm hl => ?_,fun _ h=>h,fun _ _=>rfl⟩
   ·rw [B6,h]
    cases o <;> exact ⟨_,rfl⟩
   ·obtain ⟨o2,h2,h3⟩:=iM hm
    rw [aSm h3] at h2
    exact ⟨_,h2⟩
   ·obtain ⟨o2,h2,h3⟩:=iM hm
    rw [h] at h2;cases h2
    exact ⟨by rw [← nA h3];exact hl,rfl,rfl⟩
  have Jj:Fr (C.close id true) (aT st.m id (some .dead)) w (C.close id true) ((aT st.m id (some .dead)).map (czO id y)) w:=by
   refine ⟨rfl,rfl,rfl,cP _,fun _ _ _=>rfl,fun i o h=>⟨hL.ids i o h,rfl,rfl⟩,hL.row,fun i o h o' hm hl=>(hL.liv i o h o' hm hl).1,fun i o b h hl hb => ?_,fun _ h=>h,fun _ h => .inl h⟩
   obtain ⟨o2,h2,h3⟩:=iM h;exact .inr ⟨i,o2,h2,by rw [← nA h3];exact hl,hb⟩
  refine ⟨C.close id true,⟨?_,fun i hi => ?_⟩,⟨fun i ty n cs h => ?_,fun i ty cs h => ?_,fun i es cl h => ?_,fun i i' o1 o2 b h1 l1 h2 l2 => ?_,fun i o b h hl => ?_,hm.Fs,fun i o b h hl => ?_⟩,(hF.trans hk).trans Jj,(hD.fr hM (fH rfl) hk).fr hm (fun i to ti sz L q=>by
   obtain ⟨o2,h2,h3⟩:=iM q;cases o2 with
   | pk=>simp only [czO,Option.some.injEq] at h3;rw [← h3];exact h2
   | _=>simp [czO] at h3) Jj⟩
  ·rw [uB];exact hS.size
  ·exact ((jE hM ho hz hS.rep).2 i hi).mono hL
  ·obtain ⟨o2,h2,h3⟩:=iM h
   rw [aSm h3] at h2
   exact hm.row _ _ _ _ h2
  ·obtain ⟨o2,h2,h3⟩:=iM h
   cases o2 with
   | box Cb l =>
    simp only [czO,Option.some.injEq,AO.box.injEq] at h3
    obtain ⟨rfl,rfl⟩:=h3;have hne:i≠id:=fun e=>by
     subst e;rw [aS] at h2;cases h2
    obtain ⟨b,arr,q0,q1,q2,q3,q4⟩:=hM.box _ _ _ ((aN st.m id i _ _ (Ne.symm hne)).1 h2);obtain ⟨r1,r2⟩:=jE hM ho hz (us:=fun j=>arr.getD j undef) q3
    exact ⟨b,arr,q0,q1,by rw [r1];exact q2,fun j hj=>(r2 j hj).mono hL,fun j hj=>q4 j (by rw [r1] at hj;exact hj)⟩
   | row=>simp [czO] at h3
   | mp=>simp [czO] at h3
   | pk=>simp [czO] at h3
   | dead=>simp [czO] at h3
  ·obtain ⟨o2,h2,h3⟩:=iM h
   have:o2 = .mp es cl:=by cases o2 <;> simp [czO] at h3 ⊢;exact h3
   subst this;obtain ⟨b,arr,q0,q1,q2,q3⟩:=hm.mp _ _ _ h2;refine ⟨b,arr,q0,q1,q2,fun j hj => ?_⟩
   obtain ⟨en,r1,r2,r3,r4⟩:=q3 j hj;exact ⟨en,r1,r2,r3,r4.mono hL.F hL.fz⟩
  ·obtain ⟨o3,h3,h4⟩:=iM h1
   obtain ⟨o5,h5,h6⟩:=iM h2;exact hm.inj i i' o3 o5 b h3 (by rw [← nA h4];exact l1) h5 (by rw [← nA h6];exact l2)
  ·obtain ⟨o3,h3,h4⟩:=iM h
   exact hm.nF i o3 b h3 (by rw [← nA h4];exact hl)
  ·obtain ⟨o3,h3,h4⟩:=iM h
   exact hm.lt i o3 b h3 (by rw [← nA h4];exact hl)
 ·cases hf
end
section
variable {P:Program} {T:TT} {E:Env} {C C0:Cx} {M M0:Mem} {w w0:World}

def idx:List Nat→Nat→Nat→Option Nat
 | [],_,_=>none
 | j::r,i,n=>match Nat.beq j i with
  | true=>some n
  | false=>idx r i (n+1)
def rnI(k:Nat)(ids:List Nat)(i:Nat):Option Nat:=match Nat.blt i k with
 | true=>some i
 | false=>idx ids i k
mutual
def mpA(f:Nat→Option Nat):AV→Option AV
 | .own i=>(f i).map .own
 | .arr i off n=>(f i).map fun j => .arr j off n
 | .ptr i off=>(f i).map fun j => .ptr j off
 | .mp i=>(f i).map .mp
 | .pa i q=>(f i).map fun j => .pa j q
 | .agg l=>(mpL f l).map .agg
 | .tup l=>(mpL f l).map .tup
 | .fn g a b=>match mpL f a with
  | some a'=>(mpL f b).map fun b' => .fn g a' b'
  | none=>none
 | .p x=>some (.p x)
 | .rp cs o=>some (.rp cs o)
 | .yld l=>some (.yld l)
 | .kb b=>some (.kb b)
 | .any=>some .any
def mpL(f:Nat→Option Nat):List AV→Option (List AV)
 | []=>some []
 | x::r=>match mpA f x with
  | some y=>(mpL f r).map (y :: ·)
  | none=>none
end
def mpO(f:Nat→Option Nat):AO→Option AO
 | .row ty n cs=>some (.row ty n cs)
 | .box ty l=>(mpL f l).map (.box ty ·)
 | .mp es cl=>some (.mp es cl)
 | .pk to ti sz L=>some (.pk to ti sz L)
 | .dead=>some .dead
def mpM(f:Nat→Option Nat):Mem→Option Mem
 | []=>some []
 | none::r=>(mpM f r).map (none :: ·)
 | some o::r=>match mpO f o with
  | some o'=>(mpM f r).map (some o' :: ·)
  | none=>none
abbrev rnL(k:Nat)(ids:List Nat):=mpL (rnI k ids)
abbrev rnM(k:Nat)(ids:List Nat):=mpM (rnI k ids)
def at?(m:Mem)(i:Nat):Option AO:=bG m i
def distinct(k:Nat):List Nat→Bool
 | []=>true
 | i::r=>match Nat.ble k i with
  | true=>match r.all (fun j => !Nat.beq j i) with
   | true=>distinct k r
   | false=>false
  | false=>false
def firsts(m:Mem):Nat→Nat→Mem
 | 0,_=>[]
 | k+1,i=>at? m i::firsts m k (i+1)
def pick(k:Nat)(ids:List Nat)(st:St):Option St:=match distinct k ids with
 | true=>match rnL k ids st.t with
  | some t=>(rnM k ids (firsts st.m k 0++ids.map (at? st.m))).map (⟨t,·⟩)
  | none=>none
 | false=>none

theorem uA:∀ (ids:List Nat) (i n j:Nat),idx ids i n=some j→n≤j∧ids[j-n]? = some i
 | [],i,n,j,h=>by cases h
 | a::r,i,n,j,h=>by
  unfold idx at h
  split at h
  ·rename_i hb
   cases h;exact ⟨cP _,by rw [aWo];simp [Nat.eq_of_beq_eq_true hb]⟩
  ·obtain ⟨h1,h2⟩:=uA r i (n+1) j h
   refine ⟨by omega,?_⟩
   rw [show j-n=(j-(n+1))+1 by omega]
   simpa using h2
theorem gP{k:Nat}:∀ {ids:List Nat},distinct k ids=true→(∀ i∈ids,k≤i)∧ids.Nodup
 | [],_=>⟨by simp,.nil⟩
 | a::r,h=>by
  unfold distinct at h
  split at h
  ·rename_i h1
   split at h
   ·rename_i h2
    obtain ⟨h3,h4⟩:=gP h;refine ⟨fun i hi => ?_,?_⟩
    ·rcases gG.1 hi with rfl | hi
     ·exact Nat.le_of_ble_eq_true h1
     ·exact h3 i hi
    ·refine List.nodup_cons.2 ⟨fun hm => ?_,h4⟩
     have:=fD.1 h2 a hm;simp at this
   ·cases h
  ·cases h
theorem aEb(m:Mem):∀ (k i j:Nat),j<k→(firsts m k i)[j]? = some (bG m (i+j))
 | 0,i,j,h=>by omega
 | k+1,i,j,h=>by
  unfold firsts;cases j with
  | zero=>simp [at?]
  | succ j =>
   have:=aEb m k (i+1) j (by omega)
   rw [List.getElem?_cons_succ,this,show i+1+j=i+(j+1) by omega]
theorem kY(m:Mem):∀ (k i:Nat),(firsts m k i).length=k
 | 0,_=>rfl
 | k+1,i=>by simp [firsts,kY m k]

def lH(k:Nat)(ids:List Nat)(j:Nat):Option Nat:=if j<k then some j else ids[j-k]?
theorem aGb{k:Nat}{ids:List Nat}{i j:Nat}(h:rnI k ids i=some j):lH k ids j=some i:=by
 unfold rnI at h
 split at h
 ·rename_i hb
  cases h;have:i<k:=by simpa [Nat.blt_eq] using hb
  simp [lH,this]
 ·obtain ⟨h1,h2⟩:=uA _ _ _ _ h
  simp [lH,Nat.not_lt.2 h1,h2]
theorem aSj{k:Nat}{ids:List Nat}(hd:distinct k ids=true){j j' i:Nat}(h:lH k ids j=some i)(h':lH k ids j'=some i):j=j':=by
 obtain ⟨h1,h2⟩:=gP hd;unfold lH at h h'
 split at h <;> split at h'
 ·cases h;cases h';rfl
 ·cases h
  have:=h1 _ (Bf h');omega
 ·cases h'
  have:=h1 _ (Bf h);omega
 ·obtain ⟨q1,q2⟩:=A2.1 h
  obtain ⟨q3,q4⟩:=A2.1 h';have hp:=List.pairwise_iff_getElem.1 h2
  rcases Nat.lt_trichotomy (j-k) (j'-k) with hl | hl | hl
  ·exact absurd (q2.trans q4.symm) (hp _ _ q1 q3 hl)
  ·omega
  ·exact absurd (q4.trans q2.symm) (hp _ _ q3 q1 hl)

def Cx.rn(C:Cx)(k:Nat)(ids:List Nat):Cx:={ ι:=fun j=>(lH k ids j).bind C.ι,κ:=fun j=>match lH k ids j with | some i=>C.κ i | none=>0,F:=C.F }

theorem zM{f:Nat→Option Nat}:∀ {m m':Mem},mpM f m=some m'→m'.length=m.length∧(∀ (j:Nat) (o':AO),m'[j]? = some (some o')→∃ o,m[j]? = some (some o)∧mpO f o=some o')∧(∀ (j:Nat) (o:AO),m[j]? = some (some o)→∃ o',m'[j]? = some (some o')∧mpO f o=some o')
 | [],m',h=>by cases h;exact ⟨rfl,fun j o h=>by simp at h,fun j o h=>by simp at h⟩
 | none::r,m',h=>by
  unfold mpM at h
  cases hr:mpM f r with
  | none=>rw [hr] at h;cases h
  | some r' =>
   rw [hr] at h;cases h
   obtain ⟨h1,h2,h3⟩:=zM hr;refine ⟨by simp [h1],fun j o hj => ?_,fun j o hj => ?_⟩
   ·cases j with
    | zero=>simp at hj
    | succ j=>exact h2 j o (by simpa using hj)
   ·cases j with
    | zero=>simp at hj
    | succ j=>exact h3 j o (by simpa using hj)
 | some o::r,m',h=>by
  unfold mpM at h
  split at h
  ·rename_i o' Co
   cases hr:mpM f r with
   | none=>rw [hr] at h;cases h
   | some r' =>
    rw [hr] at h;cases h
    obtain ⟨h1,h2,h3⟩:=zM hr;refine ⟨by simp [h1],fun j o hj => ?_,fun j o hj => ?_⟩
    ·cases j with
     | zero=>simp at hj;subst hj;exact ⟨_,rfl,Co⟩
     | succ j=>exact h2 j o (by simpa using hj)
    ·cases j with
     | zero=>simp at hj;subst hj;exact ⟨_,rfl,Co⟩
     | succ j=>exact h3 j o (by simpa using hj)
  ·cases h

theorem bC{f:Nat→Option Nat}{o o':AO}(h:mpO f o=some o'):o'.live=o.live:=by
 cases o <;> simp only [mpO,jV,Option.some.injEq] at h
 ·subst h;rfl
 ·obtain ⟨_,_,rfl⟩:=h;rfl
 ·subst h;rfl
 ·subst h;rfl
 ·subst h;rfl
theorem jP{f:Nat→Option Nat}{o:AO}{ty n:Nat}{cs:List PV}(h:mpO f o=some (.row ty n cs)):o = .row ty n cs:=by
 cases o <;> simp only [mpO,jV,Option.some.injEq] at h
 ·exact h
 ·obtain ⟨_,_,h⟩:=h;cases h
 ·cases h
 ·cases h
 ·cases h
structure aVe (f:Nat→Option Nat) (C C':Cx) (M M':Mem):Prop where
 bk:∀ (i j:Nat) (o':AO),f i=some j→M'[j]? = some (some o')→∃ o,M[i]? = some (some o)∧mpO f o=some o'
 fw:∀ (i j:Nat) (o:AO),f i=some j→M[i]? = some (some o)→∃ o',M'[j]? = some (some o')∧mpO f o=some o'
 at_:∀ i j,f i=some j→C'.ι j=C.ι i∧C'.κ j=C.κ i
 F:∀ b,C.F b→C'.F b

section
variable {f:Nat→Option Nat} {C':Cx} {M':Mem} (hm:aVe f C C' M M')
include hm
set_option linter.unusedSectionVars false in
mutual
theorem rL:∀ {x y:AV} {u:Value},Rep C M w x u→mpA f x=some y→Rep C' M' w y u
 | .own i,y,u,h,hr=>by
  simp only [mpA,jV] at hr
  obtain ⟨j,hj,rfl⟩:=hr;cases h with
  | own _ u h0 ha h =>
   obtain ⟨o,ho⟩:=ha;obtain ⟨o',Co,_⟩:=hm.fw _ _ _ hj ho;refine .own j u h0 ⟨o',Co⟩ fun ty n cs hx => ?_
   obtain ⟨o2,e2,e3⟩:=hm.bk _ _ _ hj hx;rw [jP e3] at e2
   rw [(hm.at_ _ _ hj).1,(hm.at_ _ _ hj).2];exact h _ _ _ e2
 | .arr i off n,y,u,h,hr=>by
  simp only [mpA,jV] at hr
  obtain ⟨j,hj,rfl⟩:=hr;cases h with
  | arr _ _ _ u h0 ha h =>
   obtain ⟨o,ho⟩:=ha;obtain ⟨o',Co,_⟩:=hm.fw _ _ _ hj ho;refine .arr j off n u h0 ⟨o',Co⟩ fun o3 hx hl => ?_
   obtain ⟨o2,e2,e3⟩:=hm.bk _ _ _ hj hx;rw [(hm.at_ _ _ hj).1];exact h _ e2 (by rw [← bC e3];exact hl)
 | .ptr i off,y,u,h,hr=>by
  simp only [mpA,jV] at hr
  obtain ⟨j,hj,rfl⟩:=hr;cases h with
  | ptr _ _ u h0 ha h hp =>
   obtain ⟨o,ho⟩:=ha;obtain ⟨o',Co,_⟩:=hm.fw _ _ _ hj ho;refine .ptr j off u h0 ⟨o',Co⟩ (fun o3 hx hl => ?_) hp
   obtain ⟨o2,e2,e3⟩:=hm.bk _ _ _ hj hx;rw [(hm.at_ _ _ hj).1];exact h _ e2 (by rw [← bC e3];exact hl)
 | .mp i,y,u,h,hr=>by
  simp only [mpA,jV] at hr
  obtain ⟨j,hj,rfl⟩:=hr;cases h with
  | mp _ u h0 ha h =>
   obtain ⟨o,ho⟩:=ha;obtain ⟨o',Co,_⟩:=hm.fw _ _ _ hj ho;refine .mp j u h0 ⟨o',Co⟩ fun o3 hx hl => ?_
   obtain ⟨o2,e2,e3⟩:=hm.bk _ _ _ hj hx;rw [(hm.at_ _ _ hj).1];exact h _ e2 (by rw [← bC e3];exact hl)
 | .pa i q,y,u,h,hr=>by
  simp only [mpA,jV] at hr
  obtain ⟨j,hj,rfl⟩:=hr;cases h with
  | pa _ _ u h0 ha h =>
   obtain ⟨o,ho⟩:=ha;obtain ⟨o',Co,_⟩:=hm.fw _ _ _ hj ho;refine .pa j q u h0 ⟨o',Co⟩ fun o3 hx hl => ?_
   obtain ⟨o2,e2,e3⟩:=hm.bk _ _ _ hj hx;rw [(hm.at_ _ _ hj).2];exact h _ e2 (by rw [← bC e3];exact hl)
 | .agg l,y,u,h,hr=>by
  simp only [mpA,jV] at hr
  obtain ⟨l',hl,rfl⟩:=hr;cases h with
  | agg _ vs h0 h1 h4 =>
   obtain ⟨q1,q2⟩:=eW (us:=fun i=>vs.getD i undef) h4 hl
   exact .agg _ _ (fun i hi=>h0 i (by omega)) (by omega) q2
 | .tup l,y,u,h,hr=>by
  simp only [mpA,jV] at hr
  obtain ⟨l',hl,rfl⟩:=hr;cases h with
  | tup _ vs h1 h4 =>
   obtain ⟨q1,q2⟩:=eW (us:=fun i=>vs.getD i undef) h4 hl
   exact .tup _ _ (by omega) q2
 | .fn g a b,y,u,h,hr=>by
  simp only [mpA] at hr
  split at hr
  ·rename_i a' ha
   simp only [jV] at hr
   obtain ⟨b',hb,rfl⟩:=hr;cases h with
   | fn _ _ _ us vs h1 h4 h5 h6 =>
    obtain ⟨q1,q2⟩:=eW (us:=fun i=>us.getD i undef) h5 ha
    obtain ⟨r1,r2⟩:=eW (us:=fun i=>vs.getD i undef) h6 hb
    exact .fn g _ _ us vs (by omega) (by omega) q2 r2
  ·cases hr
 | .p x,y,u,h,hr=>by simp only [mpA] at hr;cases hr;cases h with | p _ _ h=>exact .p _ _ (h.mono hm.F (fun _ _=>rfl))
 | .rp cs o,y,u,h,hr=>by
  simp only [mpA] at hr;cases hr
  cases h with | rp _ _ b o us h1 h2 h3=>exact .rp cs _ b o us (fun i hi=>⟨hm.F _ (h1 i hi).1,(h1 i hi).2⟩) (fun i hi=>(h2 i hi).mono hm.F (fun _ _=>rfl)) h3
 | .yld l,y,u,h,hr=>by simp only [mpA] at hr;cases hr;cases h;exact .yld _
 | .kb b,y,u,h,hr=>by simp only [mpA] at hr;cases hr;cases h;exact .kb _
 | .any,y,u,h,hr=>by simp only [mpA] at hr;cases hr;exact .any _
theorem eW:∀ {l ys:List AV} {us:Nat→Value},(∀ i (h:i<l.length),Rep C M w l[i] (us i))→mpL f l=some ys→ys.length=l.length∧∀ i (h:i<ys.length),Rep C' M' w ys[i] (us i)
 | [],_,_,_,hr=>by simp only [mpL] at hr;cases hr;exact ⟨rfl,fun i h=>by simp at h⟩
 | x::r,ys,us,h,hr=>by
  simp only [mpL] at hr
  split at hr
  ·rename_i y hy
   simp only [jV] at hr
   obtain ⟨r',E5,rfl⟩:=hr;obtain ⟨q1,q2⟩:=eW (us:=fun i=>us (i+1)) (fun i hi=>h (i+1) (by simpa using hi)) E5
   refine ⟨by simp [q1],fun i hi => ?_⟩
   cases i with
   | zero=>exact rL (h 0 (by simp)) hy
   | succ i=>exact q2 i (by simpa using hi)
  ·cases hr
end
end

theorem pE{k:Nat}{ids:List Nat}{M':Mem}(hM:aO P C M w)(hd:distinct k ids=true)(B8:rnM k ids (firsts M k 0++ids.map (at? M))=some M') :
  aO P (C.rn k ids) M' w∧aVe (rnI k ids) C (C.rn k ids) M M'∧∀ (j:Nat) (o':AO),M'[j]? = some (some o')→∃ i o,lH k ids j=some i∧M[i]? = some (some o)∧mpO (rnI k ids) o=some o':=by
 obtain ⟨g1,g2,g3⟩:=zM B8;have hat:∀ (i j:Nat) (o:AO),lH k ids j=some i→((firsts M k 0++ids.map (at? M))[j]? = some (some o)↔M[i]? = some (some o)):=fun i j o hs=>by
  unfold lH at hs
  split at hs
  ·rename_i hj
   cases hs;rw [aAy (by rw [kY];exact hj),aEb _ _ _ _ hj,fE,Option.some.injEq,aZ]
  ·rename_i hj
   rw [aAx (by rw [kY];omega),kY,B6,hs,Option.map_some,Option.some.injEq]
   exact aZ
 have hsrc:∀ (j:Nat) (o:AO),(firsts M k 0++ids.map (at? M))[j]? = some (some o)→∃ i,lH k ids j=some i:=fun j o hj=>by
  unfold lH
  split
  ·exact ⟨_,rfl⟩
  ·obtain ⟨hl,_⟩:=A2.1 hj
   rw [fK,kY,A8] at hl
   exact ⟨_,Ap (by omega)⟩
 have h2:∀ (j:Nat) (o':AO),M'[j]? = some (some o')→∃ i o,lH k ids j=some i∧M[i]? = some (some o)∧mpO (rnI k ids) o=some o':=fun j o' hj=>by
  obtain ⟨o,q1,q2⟩:=g2 j o' hj;obtain ⟨i,hi⟩:=hsrc j o q1;exact ⟨i,o,hi,(hat i j o hi).1 q1,q2⟩
 have hi:∀ j i,lH k ids j=some i→(C.rn k ids).ι j=C.ι i∧(C.rn k ids).κ j=C.κ i:=fun j i h=>by simp [Cx.rn,h]
 have hmp:aVe (rnI k ids) C (C.rn k ids) M M':=⟨fun i j o' hf hj=>by
  obtain ⟨i',o,q1,q2,q3⟩:=h2 j o' hj;rw [aGb hf] at q1;cases q1
  exact ⟨o,q2,q3⟩,fun i j o hf ho=>g3 j o ((hat i j o (aGb hf)).2 ho),fun i j hf=>hi j i (aGb hf),fun _ h=>h⟩
 refine ⟨⟨fun j ty n cs h => ?_,fun j ty cs h => ?_,fun j es cl h => ?_,fun j j' o1 o2 b q1 l1 q2 l2 e1 e2 => ?_,fun j o b h hl hb => ?_,hM.Fs,fun j o b h hl hb => ?_⟩,hmp,h2⟩
 ·obtain ⟨i,o,q1,q2,q3⟩:=h2 _ _ h
  rw [jP q3] at q2
  obtain ⟨r1,r2⟩:=hi j i q1;rw [r1,r2];exact hM.row _ _ _ _ q2
 ·obtain ⟨i,o,q1,q2,q3⟩:=h2 _ _ h
  obtain ⟨r1,r2⟩:=hi j i q1;cases o with
  | box Cb l =>
   simp only [mpO,jV] at q3
   obtain ⟨l',Cy,e⟩:=q3;cases e;obtain ⟨b,arr,p0,p1,p2,p3,p4⟩:=hM.box _ _ _ q2;obtain ⟨n1,n2⟩:=eW hmp (w:=w) (us:=fun j=>arr.getD j undef) p3 Cy
   exact ⟨b,arr,by rw [r1];exact p0,p1,by omega,n2,fun j hj=>p4 j (by omega)⟩
  | row=>simp [mpO] at q3
  | mp=>simp [mpO] at q3
  | pk=>simp [mpO] at q3
  | dead=>simp [mpO] at q3
 ·obtain ⟨i,o,q1,q2,q3⟩:=h2 _ _ h
  obtain ⟨r1,r2⟩:=hi j i q1;cases o with
  | mp Bq Cp =>
   simp only [mpO,Option.some.injEq] at q3
   cases q3;obtain ⟨b,arr,p0,p1,p2,p3⟩:=hM.mp _ _ _ q2;exact ⟨b,arr,by rw [r1];exact p0,p1,p2,p3⟩
  | row=>simp [mpO] at q3
  | box=>simp [mpO] at q3
  | pk=>simp [mpO] at q3
  | dead=>simp [mpO] at q3
 ·obtain ⟨i,o,q3,q4,q5⟩:=h2 _ _ q1
  obtain ⟨i',o',q6,q7,q8⟩:=h2 _ _ q2;rw [(hi _ _ q3).1] at e1
  rw [(hi _ _ q6).1] at e2
  have:=hM.inj i i' o o' b q4 (by rw [← bC q5];exact l1) q7 (by rw [← bC q8];exact l2) e1 e2
  subst this;exact aSj hd q3 q6
 ·obtain ⟨i,o',q3,q4,q5⟩:=h2 _ _ h
  rw [(hi _ _ q3).1] at hb
  exact hM.nF i o' b q4 (by rw [← bC q5];exact hl) hb
 ·obtain ⟨i,o',q3,q4,q5⟩:=h2 _ _ h
  rw [(hi _ _ q3).1] at hb
  exact hM.lt i o' b q4 (by rw [← bC q5];exact hl) hb

theorem aMt{k:Nat}{ids:List Nat}{st Ag:St}{a:Act}(hk:M0.length≤k)(hp:pick k ids st=some Ag)(hs:Sim P C0 M0 w0 st a w):Sim P C0 M0 w0 Ag a w:=by
 obtain ⟨C,hS,hM,hF,hD⟩:=hs;unfold pick at hp
 split at hp
 ·rename_i hd
  split at hp
  ·rename_i t ht
   simp only [jV] at hp
   obtain ⟨M',B8,rfl⟩:=hp;obtain ⟨E1,hmp,h2⟩:=pE hM hd B8;obtain ⟨t1,t2⟩:=eW hmp (w:=w) (us:=fun i=>a.tmps.getD i undef) hS.rep ht
   have hi:∀ j i,lH k ids j=some i→(C.rn k ids).ι j=C.ι i∧(C.rn k ids).κ j=C.κ i:=fun j i h=>by simp [Cx.rn,h]
   have small:∀ (i:Nat) (o:AO),M0[i]? = some (some o)→lH k ids i=some i∧rnI k ids i=some i:=fun i o h=>by
    obtain ⟨hl,_⟩:=A2.1 h;have hik:i<k:=by omega
    have hb:Nat.blt i k=true:=by rw [Nat.blt_eq];exact hik
    exact ⟨by simp [lH,hik],by simp only [rnI,hb]⟩
   refine ⟨C.rn k ids,⟨by rw [hS.size];exact t1.symm,t2⟩,E1,
    ⟨hF.os,hF.tape,hF.out,hF.size,hF.keep,fun i o h => ?_,fun i o h ty n cs hx => ?_,fun i o h o' hx hl => ?_,fun j o b h hl hb => ?_,hF.F1,hF.F2⟩,hD.1,fun p hp => ?_,?_⟩
   ·obtain ⟨⟨o',q1⟩,q2,q3⟩:=hF.ids i o h
    obtain ⟨o2,q4,_⟩:=hmp.fw i i o' (small i o h).2 q1;obtain ⟨r1,r2⟩:=hi i i (small i o h).1;exact ⟨⟨o2,q4⟩,r1.trans q2,r2.trans q3⟩
   ·obtain ⟨i',o',q3,q4,q5⟩:=h2 _ _ hx
    rw [(small i o h).1] at q3;cases q3
    rw [jP q5] at q4
    exact hF.row _ _ h _ _ _ q4
   ·obtain ⟨i',o2,q3,q4,q5⟩:=h2 _ _ hx
    rw [(small i o h).1] at q3;cases q3
    exact hF.liv _ _ h _ q4 (by rw [← bC q5];exact hl)
   ·obtain ⟨i,o',q3,q4,q5⟩:=h2 _ _ h
    rw [(hi _ _ q3).1] at hb
    exact hF.new i o' b q4 (by rw [← bC q5];exact hl) hb
   ·obtain ⟨r1,r2,r3,r4,r5⟩:=hD.2.1 p hp
    refine ⟨r1,r2,r3,r4,fun j o h hl hb => ?_⟩
    obtain ⟨i,o',q3,q4,q5⟩:=h2 _ _ h;rw [(hi _ _ q3).1] at hb
    exact r5 i o' q4 (by rw [← bC q5];exact hl) hb
   ·have lv:∀ (j:Nat) (o:AO),M'[j]? = some (some o)→o.live=true→∃ i o',lH k ids j=some i∧st.m[i]? = some (some o')∧o'.live=true:=fun j o h hl=>by
     obtain ⟨i,o',q3,q4,q5⟩:=h2 _ _ h;exact ⟨i,o',q3,q4,by rw [← bC q5];exact hl⟩
    have pk:∀ (j to ti sz:Nat) (L:List (Nat × List PV)),M'[j]? = some (some (.pk to ti sz L))→∃ i,lH k ids j=some i∧st.m[i]? = some (some (.pk to ti sz L)):=fun j to ti sz L h=>by
     obtain ⟨i,o',q3,q4,q5⟩:=h2 _ _ h;refine ⟨i,q3,?_⟩;cases o' with
     | pk=>simp only [mpO,Option.some.injEq] at q5;rw [← q5];exact q4
     | box=>simp [mpO] at q5
     | _=>simp [mpO] at q5
    refine ⟨fun j to ti sz L h => ?_,fun j j' to ti sz Oq Ot Ou L L' h h' hne b hb Aj => ?_⟩
    ·obtain ⟨i,q3,q4⟩:=pk _ _ _ _ _ h
     obtain ⟨p,p0,p1⟩:=hD.2.2.1 _ _ _ _ _ q4;obtain ⟨r1,r2⟩:=hi j i q3;refine ⟨p.move (r1.trans p.io) r2 (fun _ h=>h) (fun _ _=>rfl) fun b hb=>⟨rfl,(p.own b hb).1,fun j2 o2 ho hl => ?_⟩,fun o ho => ?_,by rw [r2];exact p1⟩
     ·obtain ⟨i2,o3,s1,s2,s3⟩:=lv j2 o2 ho hl
      rw [(hi _ _ s1).1];exact (p.own b hb).2 i2 o3 s2 s3
     ·have:=(small j o ho).1
      rw [this] at q3;cases q3
      exact p0 o ho
    ·obtain ⟨i,q3,q4⟩:=pk _ _ _ _ _ h
     obtain ⟨i',Iv,Sr⟩:=pk _ _ _ _ _ h';rw [(hi j i q3).2] at hb
     rw [(hi j' i' Iv).2] at Aj
     refine hD.2.2.2 _ _ _ _ _ _ _ _ _ _ q4 Sr (fun e=>hne ?_) b hb Aj
     subst e;exact aSj hd q3 Iv
  ·cases hp
 ·cases hp

def aEc:List Nat→St→Option St
 | [],st=>some st
 | i::r,st=>match Ov i st with
  | some Ag=>aEc r Ag
  | none=>match fzP i st with
   | some Ag=>aEc r Ag
   | none=>match fzM i st with
    | some Ag=>aEc r Ag
    | none=>none
def nlC(id off ty:Nat)(st:St):Option St:=match st.m[id]? with
 | some (some (.box bty cs))=>match cs[off]? with
  | some (.p (.v (.slice none 0 0)))=>match Nat.beq ty 99999 with
   | true=>some ⟨st.t,aT st.m id (some (.box bty (cs.set off (.p (.sl 0 [])))))⟩
   | false=>match eG st.m st.m.length with
    | true=>some ⟨st.t,aT (aT st.m st.m.length (some (.row ty 0 []))) id (some (.box bty (cs.set off (.own st.m.length))))⟩
    | false=>none
  | some (.kb b)=>some ⟨st.t,aT st.m id (some (.box bty (cs.set off (.p (.v (.bool b))))))⟩
  | _=>none
 | _=>none
def nlS(i ty:Nat)(st:St):Option St:=match st.t[i]? with
 | some (.p (.v (.slice none 0 0)))=>match Nat.beq ty 99999 with
  | true=>some ⟨st.t.set i (.p (.sl 0 [])),st.m⟩
  | false=>match eG st.m st.m.length with
   | true=>some ⟨st.t.set i (.own st.m.length),aT st.m st.m.length (some (.row ty 0 []))⟩
   | false=>none
 | some (.kb b)=>some ⟨st.t.set i (.p (.v (.bool b))),st.m⟩
 | _=>none
def Ow(i ty:Nat)(st:St):Option St:=match Nat.ble 100000 i with
 | true=>nlC ((i-100000) / 1000) ((i-100000) % 1000) ty st
 | false=>match Nat.ble 1000000000 ty with
  | true=>nlP i ((ty-1000000000) / 1000000) ((ty-1000000000) / 100 % 10000) ((ty-1000000000) % 100) st
  | false=>nlS i ty st
def aSk:List (Nat × Nat)→St→Option St
 | [],st=>some st
 | (i,ty)::r,st=>match Ow i ty st with
  | some Ag=>aSk r Ag
  | none=>none
def gh(k:Nat)(g:Gh)(st:St):Option St:=match aEc g.fz st with
 | some st1=>match aSk g.nl st1 with
  | some st2=>pick k g.ids ⟨forget g.fg st2.t,st2.m⟩
  | none=>none
 | none=>none
theorem zN(hM:aO P C M w){id bty off:Nat}{cs:List AV}{x:AV}(hb:M[id]? = some (some (.box bty cs)))(hoff:off<cs.length)
  (hx:∀ u,Rep C M w cs[off] u→Rep C (aT M id (some (.box bty (cs.set off x)))) w x u):aO P C (aT M id (some (.box bty (cs.set off x)))) w∧Fr C M w C (aT M id (some (.box bty (cs.set off x)))) w:=by
 have hold:∀ (i:Nat) (o:AO),i≠id→(aT M id (some (.box bty (cs.set off x))))[i]? = some (some o)→M[i]? = some (some o):=fun i o h=>(aN M id i _ o (fun e=>h e.symm)).1
 have hnew:∀ (o:AO),(aT M id (some (.box bty (cs.set off x))))[id]? = some (some o)→o = .box bty (cs.set off x):=fun o h=>by rw [aS] at h;cases h;rfl
 have hliv:∀ (i:Nat) (o:AO),(aT M id (some (.box bty (cs.set off x))))[i]? = some (some o)→o.live=true→∃ o1,M[i]? = some (some o1)∧o1.live=true:=fun i o h hl=>by
  by_cases e:i=id
  ·subst e;exact ⟨_,hb,rfl⟩
  ·exact ⟨o,hold i o e h,hl⟩
 have f:Fr C M w C (aT M id (some (.box bty (cs.set off x)))) w:=by
  refine ⟨rfl,rfl,rfl,cP _,fun _ _ _=>rfl,fun i o h=>⟨?_,rfl,rfl⟩,fun i o h ty n Ox hm => ?_,fun i o h o' h' hl => ?_,fun i o b h hl hbb => ?_,fun b h=>h,fun b h => .inl h⟩
  ·by_cases e:i=id
   ·subst e;exact ⟨_,aS ..⟩
   ·exact ⟨o,(aN M id i _ o (fun e'=>e e'.symm)).2 h⟩
  ·by_cases e:i=id
   ·subst e;cases hnew _ hm
   ·exact ⟨Ox,hold i _ e hm⟩
  ·obtain ⟨o1,q1,q2⟩:=hliv i o' h' hl
   rw [h] at q1;cases q1;exact q2
  ·obtain ⟨o1,q1,q2⟩:=hliv i o h hl
   exact .inr ⟨i,o1,q1,q2,hbb⟩
 have hL:=hM.le f;refine ⟨⟨fun i ty n Ox hm => ?_,fun i ty Ox hm => ?_,fun i es cl hm => ?_,fun i i' o1 o2 b hm hl B8 Cy h1 h2 => ?_,fun i o b hm hl hbb => ?_,hM.Fs,fun i o b hm hl hbb => ?_⟩,f⟩
 ·by_cases e:i=id
  ·subst e;cases hnew _ hm
  ·exact hM.row _ _ _ _ (hold i _ e hm)
 ·by_cases e:i=id
  ·subst e
   cases hnew _ hm;obtain ⟨b,arr,q0,q1,q2,q3,q4⟩:=hM.box _ _ _ hb;refine ⟨b,arr,q0,q1,by simpa using q2,fun j hj => ?_,fun j hj=>q4 j (by simpa using hj)⟩
   rw [wH]
   split
   ·rename_i e2;subst e2;exact hx _ (q3 _ hoff)
   ·exact (q3 j (by simpa using hj)).mono hL
  ·obtain ⟨b,arr,q0,q1,q2,q3,q4⟩:=hM.box _ _ _ (hold i _ e hm)
   exact ⟨b,arr,q0,q1,q2,fun j hj=>(q3 j hj).mono hL,q4⟩
 ·by_cases e:i=id
  ·subst e;cases hnew _ hm
  ·obtain ⟨b,arr,q0,q1,q2,q3⟩:=hM.mp _ _ _ (hold i _ e hm)
   refine ⟨b,arr,q0,q1,q2,fun j hj => ?_⟩
   obtain ⟨en,r1,r2,r3,r4⟩:=q3 j hj;exact ⟨en,r1,r2,r3,r4.mono hL.F hL.fz⟩
 ·obtain ⟨x1,y1,z1⟩:=hliv i o1 hm hl
  obtain ⟨x2,y2,z2⟩:=hliv i' o2 B8 Cy;exact hM.inj _ _ _ _ _ y1 z1 y2 z2 h1 h2
 ·obtain ⟨x1,y1,z1⟩:=hliv i o hm hl
  exact hM.nF _ _ _ y1 z1 hbb
 ·obtain ⟨x1,y1,z1⟩:=hliv i o hm hl
  exact hM.lt _ _ _ y1 z1 hbb
theorem aVf{id off ty:Nat}{st Ag:St}{a:Act}(h:nlC id off ty st=some Ag)(hs:Sim P C0 M0 w0 st a w):Sim P C0 M0 w0 Ag a w:=by
 obtain ⟨C,hS,hM,hF,hD⟩:=hs;unfold nlC at h
 split at h
 ·rename_i bty cs hi
  split at h
  ·rename_i hc
   split at h
   ·cases h
    obtain ⟨hoff,hcv⟩:=A2.1 hc;obtain ⟨Gw,f2⟩:=zN hM hi hoff (x := .p (.sl 0 [])) (fun u hu=>by
     rw [hcv] at hu
     cases hu with
     | p _ _ h =>
      cases h;exact .p _ _ (.sl 0 [] none 0 (fun _=>undef) (cP _) (Nat.zero_le _) (fun i hi=>by simp at hi) (fun i hi=>by simp at hi) (fun i hi=>by simp at hi)))
    exact ⟨C,hS.le (hM.le f2),Gw,hF.trans f2,hD.fr hM (fH rfl) f2⟩
   ·split at h
    ·rename_i hb
     cases h;have hf:=cA hb;have f:=uP (C:=C) (w:=w) (ty:=ty) hf;have Bd:=uQ (ty:=ty) hM hf;have hne:id≠st.m.length:=fun e=>hf _ (e ▸ hi)
     have Hw:(aT st.m st.m.length (some (.row ty 0 [])))[id]? = some (some (.box bty cs)):=(aN st.m st.m.length id _ _ (fun e=>hne e.symm)).2 hi
     obtain ⟨hoff,hcv⟩:=A2.1 hc;have hnw:(aT (aT st.m st.m.length (some (.row ty 0 []))) id (some (.box bty (cs.set off (.own st.m.length)))))[st.m.length]? = some (some (.row ty 0 [])):=(aN _ id st.m.length _ _ hne).2 (aS ..);obtain ⟨Gw,f2⟩:=zN Bd Hw hoff (x := .own st.m.length) (fun u hu=>by
      rw [hcv] at hu
      cases hu with
      | p _ _ h =>
       cases h;exact .own _ _ rfl ⟨_,hnw⟩ fun ty n cs h=>by rw [hnw] at h;cases h;exact .inl ⟨rfl,by simp [Cx.nil],rfl⟩)
     exact ⟨C.nil st.m.length,(hS.le (hM.le f)).le (Bd.le f2),Gw,(hF.trans f).trans f2,hD.fr hM ((fH rfl).trans (fH rfl)) (f.trans f2)⟩
    ·cases h
  ·rename_i b hc
   cases h;obtain ⟨hoff,hcv⟩:=A2.1 hc;obtain ⟨Gw,f2⟩:=zN hM hi hoff (x := .p (.v (.bool b))) (fun u hu=>by
    rw [hcv] at hu
    cases hu;exact .p _ _ (.v _))
   exact ⟨C,hS.le (hM.le f2),Gw,hF.trans f2,hD.fr hM (fH rfl) f2⟩
  ·cases h
 ·cases h
theorem aVg{i ty:Nat}{st Ag:St}{a:Act}(h:nlS i ty st=some Ag)(hs:Sim P C0 M0 w0 st a w):Sim P C0 M0 w0 Ag a w:=by
 obtain ⟨C,hS,hM,hF,hD⟩:=hs;unfold nlS at h
 split at h
 ·rename_i hi
  split at h
  ·cases h
   refine ⟨C,⟨by simpa using hS.size,fun j hj => ?_⟩,hM,hF,hD⟩
   simp only [nJ] at hj
   rw [wH]
   split
   ·rename_i e
    subst e;have hr:=hS.at hi
    generalize a.tmps.getD i undef=u at hr ⊢
    cases hr with
    | p _ _ h =>
     cases h;exact .p _ _ (.sl 0 [] none 0 (fun _=>undef) (cP _) (Nat.zero_le _) (fun i hi=>by simp at hi) (fun i hi=>by simp at hi) (fun i hi=>by simp at hi))
   ·exact hS.rep j hj
  ·split at h
   ·rename_i hb
    cases h;have hf:=cA hb;have f:=uP (C:=C) (w:=w) (ty:=ty) hf;have hL:=hM.le f;refine ⟨C.nil st.m.length,⟨by simpa using hS.size,fun j hj => ?_⟩,uQ hM hf,hF.trans f,hD.fr hM (fH rfl) f⟩
    simp only [nJ] at hj
    rw [wH]
    split
    ·rename_i e
     subst e;have hr:=hS.at hi
     generalize a.tmps.getD i undef=u at hr ⊢
     cases hr with
     | p _ _ h =>
      cases h;exact .own _ _ rfl ⟨_,aS ..⟩ fun ty n cs h=>by rw [aS] at h;cases h;exact .inl ⟨rfl,by simp [Cx.nil],rfl⟩
    ·exact (hS.rep j hj).mono hL
   ·cases h
 ·rename_i b hi
  cases h;refine ⟨C,⟨by simpa using hS.size,fun j hj => ?_⟩,hM,hF,hD⟩
  simp only [nJ] at hj
  rw [wH]
  split
  ·rename_i e
   subst e;have hr:=hS.at hi
   generalize a.tmps.getD i undef=u at hr ⊢
   cases hr;exact .p _ _ (.v _)
  ·exact hS.rep j hj
 ·cases h
theorem aVh{i ty:Nat}{st Ag:St}{a:Act}(h:Ow i ty st=some Ag)(hs:Sim P C0 M0 w0 st a w):Sim P C0 M0 w0 Ag a w:=by
 unfold Ow at h
 split at h
 ·exact aVf h hs
 ·split at h
  ·exact aVm h hs
  ·exact aVg h hs
theorem xM:∀ (l:List (Nat × Nat)) {st Ag:St} {a:Act},aSk l st=some Ag→Sim P C0 M0 w0 st a w→Sim P C0 M0 w0 Ag a w
 | [],st,Ag,a,h,hs=>by cases h;exact hs
 | (i,ty)::r,st,Ag,a,h,hs=>by
  unfold aSk at h
  split at h
  ·rename_i h1
   exact xM r h (aVh h1 hs)
  ·cases h
theorem lJ:∀ (l:List Nat) {st Ag:St} {a:Act},aEc l st=some Ag→Sim P C0 M0 w0 st a w→Sim P C0 M0 w0 Ag a w
 | [],st,Ag,a,h,hs=>by cases h;exact hs
 | i::r,st,Ag,a,h,hs=>by
  unfold aEc at h
  split at h
  ·rename_i h1
   exact lJ r h (aVn h1 hs)
  ·split at h
   ·rename_i h1
    exact lJ r h (aVl h1 hs)
   ·split at h
    ·rename_i h1
     exact lJ r h (aVk h1 hs)
    ·cases h
theorem dU{k:Nat}{g:Gh}{st Ag:St}{a:Act}(hk:M0.length≤k)(h:gh k g st=some Ag)(hs:Sim P C0 M0 w0 st a w):Sim P C0 M0 w0 Ag a w:=by
 unfold gh at h
 split at h
 ·rename_i h1
  split at h
  ·rename_i h2
   exact aMt hk h (aGc g.fg (xM _ h2 (lJ _ h1 hs)))
  ·cases h
 ·cases h
end
section
variable {P:Program} {T:TT} {E:Env} {C C0:Cx} {M M0:Mem} {w w0:World}

theorem bDd(hM:aO P C M w){w1:World}(hw:w1.heap=w.heap):aO P C M w1∧Le C C M M w w1:=by
 have hL:Le C C M M w w1:=⟨fun _ o h=>⟨o,h⟩,fun _ _ _ _ _ cs h=>⟨cs,h⟩,fun _ o h o' h' hl=>by rw [h] at h';cases h';exact ⟨hl,rfl,rfl⟩,fun _ h=>h,fun _ _=>by rw [hw]⟩
 have hsz:w1.heap.size=w.heap.size:=by rw [hw]
 refine ⟨⟨fun i Cb n cs hm => ?_,fun i Cb cs hm => ?_,fun i es cl hm => ?_,hM.inj,hM.nF,fun b hb=>by rw [hsz];exact hM.Fs b hb,fun i x b hm hl hb=>by rw [hsz];exact hM.lt i x b hm hl hb⟩,hL⟩
 ·rcases hM.row _ _ _ _ hm with h4 | ⟨b,arr,inf,q0,q1,q2,q3,q4,q5,q6,q7,q8⟩
  ·exact .inl h4
  ·exact .inr ⟨b,arr,inf,q0,by rw [hw];exact q1,q2,q3,q4,q5,q6,fun j hj=>(q7 j hj).mono hL.F hL.fz,q8⟩
 ·obtain ⟨b,arr,q0,q1,q2,q3,q4⟩:=hM.box _ _ _ hm
  exact ⟨b,arr,q0,by rw [hw];exact q1,q2,fun j hj=>(q3 j hj).mono hL,q4⟩
 ·obtain ⟨b,arr,q0,q1,q2,q3⟩:=hM.mp _ _ _ hm
  refine ⟨b,arr,q0,by rw [hw];exact q1,q2,fun j hj => ?_⟩
  obtain ⟨en,r1,r2,r3,r4⟩:=q3 j hj;exact ⟨en,r1,r2,r3,r4.mono hL.F hL.fz⟩
theorem aSi{w1:World}(hw:w1.heap=w.heap)(ho:w1.os=w.os)(ht:w1.tape=w.tape)(hu:w1.output=w.output):Fr C M w C M w1 :=
 ⟨ho,ht,hu,by rw [hw];exact cP _,fun b _ _=>by rw [hw],fun _ x h=>⟨⟨x,h⟩,rfl,rfl⟩,fun _ _ _ _ _ cs h=>⟨cs,h⟩,fun _ o h o' h' hl=>by rw [h] at h';cases h';exact hl,fun i x _ h hl hb => .inr ⟨i,x,h,hl,hb⟩,fun _ h=>h,fun _ h => .inl h⟩

theorem Sim.drawn{st:St}{a:Act}(h:Sim P C0 M0 w0 st a w)(k:Nat):Sim P C0 M0 w0 st a { w with drawn:=k }:=by
 obtain ⟨C,hS,hM,hF,hD⟩:=h;obtain ⟨m,l⟩:=bDd hM (w1:={ w with drawn:=k }) rfl
 exact ⟨C,hS.le l,m,hF.trans (aSi rfl rfl rfl rfl),hD.fr hM .refl (aSi rfl rfl rfl rfl)⟩

def bIj(ops:Array Oper)(k:Nat)(o:Oper):List Oper→Bool
 | []=>true
 | y::r=>(o.apart ops y || y.after.toList.any fun e=>Region.binds .any e && e.on == k) && bIj ops k o r
def bIk(ops:Array Oper):Nat→List Oper→Bool
 | _,[]=>true
 | k,o::r=>(o.after.toList.all fun e => !Region.binds .any e || Nat.blt e.on k) && bIj ops k o r && bIk ops (k+1) r
def bPa(ops:Array Oper):Bool:=Region.noSelect ops && bIk ops 0 ops.toList
theorem aDy{ops:Array Oper}{k:Nat}{o:Oper}:∀ {r:List Oper},bIj ops k o r=true→∀ y∈r,(y.after.any fun e=>Region.binds .any e && e.on == k)=true∨o.apart ops y=true
 | [],_,y,hy=>by cases hy
 | z::r,h,y,hy=>by
  unfold bIj at h
  rw [Bg,aKt] at h
  rcases gG.1 hy with rfl | hy
  ·rcases h.1 with h1 | h1
   ·exact .inr h1
   ·rw [Array.any_toList] at h1;exact .inl h1
  ·exact aDy h.2 y hy
theorem aDz{ops:Array Oper}:∀ (r:List Oper) (k:Nat) (listed:Array Bool),ops.toList.drop k=r→k+r.length=ops.size→listed.size=ops.size→(∀ j,j<ops.size→listed[j]? = some (decide (j<k))) →
  bIk ops k r=true→Region.lexFrom .any ops r.length k listed=true
 | [],k,listed,hd,hk,hz,hl,h=>by
  show (Region.ready .any ops listed).isEmpty=true;unfold Region.ready;rw [List.isEmpty_iff,List.filter_eq_nil_iff];intro i hi;have hi:=vA.1 hi;have h1:listed.getD i true=true:=by
   rw [A4,hl i hi];have:k=ops.size:=by simpa using hk
   simp;omega
  rw [h1];simp
 | o::r,k,listed,hd,hk,hz,hl,h=>by
  unfold bIk at h
  rw [Bg,Bg] at h
  obtain ⟨⟨h1,h2⟩,h3⟩:=h;rw [pY] at hk
  have hko:ops[k]? = some o:=by
   have:(ops.toList.drop k)[0]? = some o:=by rw [hd];rfl
   rw [List.getElem?_drop] at this
   simpa using this
  have hdr:ops.toList.drop (k+1)=r:=by
   have:=congrArg List.tail hd;rw [List.tail_drop] at this
   exact this
  have hlk:listed.getD k true=false:=by
   rw [A4,hl k (by omega)];simp
  show ((Region.ready .any ops listed).contains k && Region.free .any ops listed k && Region.lexFrom .any ops r.length (k+1) (listed.setIfInBounds k true))=true;rw [Bg,Bg];refine ⟨⟨?_,?_⟩,?_⟩
  ·rw [List.contains_iff_mem]
   unfold Region.ready;rw [aBd];refine ⟨vA.2 (by omega),?_⟩
   rw [hlk,hko];show (!false && o.after.all fun e => !Region.binds .any e || listed.getD e.on false)=true
   rw [Bool.not_false,gU,← Array.all_toList,fD];intro e he;have:=fD.1 h1 e he;rw [aKt] at this ⊢
   rcases this with q | q
   ·exact .inl q
   ·have q:e.on<k:=by simpa using q
    refine .inr ?_;rw [A4,hl e.on (by omega)]
    simp [q]
  ·unfold Region.free
   rw [hko];show ((List.range ops.size).all _)=true;rw [fD];intro j hj;have hj:=vA.1 hj
   rcases Nat.lt_trichotomy j k with q | q | q
   ·have:listed.getD j true=true:=by rw [A4,hl j hj];simp [q]
    rw [this];simp
   ·subst q;simp
   ·obtain ⟨y,hy⟩:∃ y,ops[j]? = some y:=⟨_,pA hj⟩
    rw [hy];have hm:y∈r:=by
     rw [← hdr];have:(ops.toList.drop (k+1))[j-(k+1)]? = some y:=by
      rw [List.getElem?_drop,show k+1+(j-(k+1))=j by omega]
      simpa using hy
     exact Bf this
    have:=aDy h2 y hm;show (j == k || listed.getD j true || ((y.after.any fun e=>Region.binds .any e && e.on == k) || o.apart ops y))=true
    rw [aKt,aKt (_) (o.apart ops y)];exact .inr this
  ·refine aDz r (k+1) _ hdr (by omega) (by rw [Array.size_setIfInBounds];exact hz) (fun j hj => ?_) h3
   rw [Array.getElem?_setIfInBounds]
   by_cases q:k=j
   ·subst q
    rw [if_pos rfl,if_pos (by omega)];simp
   ·rw [if_neg q,hl j hj]
    congr 1
    rw [decide_eq_decide];omega
theorem vY{ops:Array Oper}(h:bPa ops=true):Region.lexB .any ops=true:=by
 unfold bPa at h
 rw [Bg] at h
 unfold Region.lexB;rw [Bg];refine ⟨h.1,?_⟩;have:=aDz ops.toList 0 (Array.replicate ops.size false) rfl (by simp) (by simp) (fun j hj=>by simp [hj]) h.2
 simpa using this
def aJd(P:Program)(T:TT)(E:Env)(ops:Array Oper)(draw:Bool)(st:St):Ask St:=match draw with
 | false=>aWe P T E ops.toList ops.toList st
 | true=>do
  lift (if bPa ops then some () else none)
  let r ← aMv P T E ops.toList ops.toList st.m.length st
  lift (if aGe ops 0 r.1 then some () else none)
  pure r.2

def Ex.toExit:Ex→Exit
 | .normal => .normal
 | .ret => .ret
 | .exit id => .exit id

def aEa(body:St→Ask (Ex × St)):Nat→St→Ask (Ex × St)
 | 0,_=>fail
 | n+1,st=>do
  let r ← body st
  match r.1 with
  | .normal=>aEa body n r.2
  | e=>pure (e,r.2)

def bIl:Op→Bool
 | .makeMap _ _=>true
 | .lookup _ _ _ _=>true
 | .mapUpdate _ _ _ _=>true
 | _=>false
def nrf:Code→Bool
 | .region _ ops _=>ops.toList.all fun o => !bIl o.op
 | .seq a b=>nrf a && nrf b
 | .cond _ a b=>nrf a && nrf b
 | .block _ b=>nrf b
 | .loop b=>nrf b
 | .scope b=>nrf b
 | .rangeFunc _ _ _ _=>false
 | _=>true
def kA(ro:Option Nat)(c:Code):Prop:=ro=none∨nrf c=true
section
variable {ro:Option Nat} {a b:Code} {x:Operand} {id:Nat}
theorem kA.seq1(h:kA ro (.seq a b)):kA ro a:=h.imp (fun h=>h) fun h=>by unfold nrf at h;rw [Bg] at h;exact h.1
theorem kA.seq2(h:kA ro (.seq a b)):kA ro b:=h.imp (fun h=>h) fun h=>by unfold nrf at h;rw [Bg] at h;exact h.2
theorem kA.cond1(h:kA ro (.cond x a b)):kA ro a:=h.imp (fun h=>h) fun h=>by unfold nrf at h;rw [Bg] at h;exact h.1
theorem kA.cond2(h:kA ro (.cond x a b)):kA ro b:=h.imp (fun h=>h) fun h=>by unfold nrf at h;rw [Bg] at h;exact h.2
theorem kA.block(h:kA ro (.block id b)):kA ro b:=h
theorem kA.loop(h:kA ro (.loop b)):kA ro b:=h
theorem kA.scope(h:kA ro (.scope b)):kA ro b:=h
end

def aC(P:Program)(k:Nat)(c:Code)(st:St)(e:Ex)(Ag:St):Prop:=∀ (C0:Cx) (M0:Mem) (w0:World) (a:Act) (w:World),M0.length≤k→Sim P C0 M0 w0 st a w→∀ (ro:Option Nat),kA ro c→∀ (n:Nat),c.wpIn (Fen ro) n P (fun e' a' w'=>e'=e.toExit∧Sim P C0 M0 w0 Ag a' w') a w

def aCx(P:Program)(k:Nat)(c:Code)(m:St→Ask (Ex × St))(st:St):Ask (Ex × St):=fun s=>match s.auto with
 | true=>m st s
 | false=>match s.o with
  | .k 0 g e Ag::r=>match gh k g st with
   | some st1=>some ((e,Ag),{ s with o:=r,obs:=aC P k c st1 e Ag::s.obs })
   | none=>none
  | .k (n+1) g e Ag::r=>m st { s with o := .k n g e Ag::r }
  | .g 0 g::r=>match gh k g st with
   | some st1=>m st1 { s with o:=r }
   | none=>none
  | .g (n+1) g::r=>m st { s with o := .g n g::r }
  | _=>m st s
def pD{α:Type}(m:Ask α):Ask α:=fun s=>match s.auto with
 | true=>m s
 | false=>none

def yJ(P:Program)(T:TT)(E:Env)(k fuel:Nat):Code→St→Ask (Ex × St)
 | .skip,st=>pure (.normal,st)
 | .region id ops d,st=>aCx P k (.region id ops d) (fun st=>do let Ag ← aJd P T E ops d st;pure (.normal,Ag)) st
 | .seq a b,st=>aCx P k (.seq a b) (fun st=>do
  let r ← yJ P T E k fuel a st
  match r.1 with
  | .normal=>yJ P T E k fuel b r.2
  | e=>pure (e,r.2)) st
 | .cond c a b,st=>aCx P k (.cond c a b) (fun st=>do
  let x ← lift (ev st c)
  let d ← aNy x
  match d with
  | true=>yJ P T E k fuel a st
  | false=>yJ P T E k fuel b st) st
 | .block id b,st=>aCx P k (.block id b) (fun st=>do
  let r ← yJ P T E k fuel b st
  match r.1 with
  | .exit i=>match Nat.beq i id with
   | true=>pure (.normal,r.2)
   | false=>pure (.exit i,r.2)
  | e=>pure (e,r.2)) st
 | .loop b,st=>aCx P k (.loop b) (fun st=>pD (aEa (fun st=>yJ P T E k fuel b st) fuel st)) st
 | .exit id,st=>pure (.exit id,st)
 | .label _,st=>pure (.normal,st)
 | .scope b,st=>yJ P T E k fuel b st
 | .ret,st=>pure (.ret,st)
 | c,st=>aCx P k c (fun _=>fail) st

theorem aC.pre{k:Nat}{c:Code}{st st1 Ag:St}{e:Ex}{g:Gh}(hg:gh k g st=some st1)(h:aC P k c st1 e Ag):aC P k c st e Ag:=fun C0 M0 w0 a w hk hs ro hro n=>h C0 M0 w0 a w hk (dU hk hg hs) ro hro n
theorem aC.post{k:Nat}{c:Code}{st st1 Ag:St}{e:Ex}{g:Gh}(hg:gh k g st1=some Ag)(h:aC P k c st e st1):aC P k c st e Ag:=fun C0 M0 w0 a w hk hs ro hro n=>wpIn_mono (h C0 M0 w0 a w hk hs ro hro n) (fun _ _ _ hq=>⟨hq.1,dU hk hg hq.2⟩)
theorem jD{k:Nat}{c:Code}{m:St→Ask (Ex × St)}(hm:∀ {st Ag:St} {e:Ex} {s s':AS},m st s=some ((e,Ag),s')→aW s'→aC P k c st e Ag){st Ag:St}{e:Ex}{s s':AS}(h:aCx P k c m st s=some ((e,Ag),s'))(g:aW s'):aC P k c st e Ag:=by
 unfold aCx at h
 cases ha:s.auto with
 | true=>rw [ha] at h;exact hm h g
 | false =>
  rw [ha] at h
  dsimp only at h
  split at h
  ·split at h
   ·rename_i hg
    cases h;exact (g.tail.1).pre hg
   ·cases h
  ·exact hm h g
  ·split at h
   ·rename_i hg
    exact (hm h g).pre hg
   ·cases h
  ·exact hm h g
  ·exact hm h g
theorem kT{k:Nat}{c:Code}{m:St→Ask (Ex × St)}(hm:∀ st,bP (m st))(st:St):bP (aCx P k c m st):=fun s r s' h p hp=>by
 unfold aCx at h
 cases ha:s.auto with
 | true=>rw [ha] at h;exact hm _ _ _ _ h p hp
 | false =>
  rw [ha] at h
  dsimp only at h
  split at h
  ·split at h
   ·cases h;exact B7 _ hp
   ·cases h
  ·exact hm _ _ _ _ h p hp
  ·split at h
   ·exact hm _ _ _ _ h p hp
   ·cases h
  ·exact hm _ _ _ _ h p hp
  ·exact hm _ _ _ _ h p hp
theorem aVd{α:Type}{m:Ask α}(hm:bP m):bP (pD m):=fun s r s' h p hp=>by
 unfold pD at h
 split at h
 ·exact hm _ _ _ h p hp
 ·cases h
theorem bDe{α:Type}{m:Ask α}{s s':AS}{r:α}(h:pD m s=some (r,s')):m s=some (r,s'):=by
 unfold pD at h
 split at h
 ·exact h
 ·cases h

theorem aMr(hT:∀ t i,T t=some i→bU P t=some i)(hE:kI P E)(hm:P.follows .mixedOrders=true){id:Nat}{ops:Array Oper}{d:Bool}{st Ag:St}{s s':AS}(h:aJd P T E ops d st s=some (Ag,s'))(g:aW s'){k:Nat}:aC P k (.region id ops d) st .normal Ag:=by
 intro C0 M0 w0 a w _ hs ro hro n;cases d with
 | false =>
  refine wpIn_region ?_;have:=tC hT hE ops.toList 0 (fun j=>by simp) h g C0 M0 w0 a w hs ro n (fun e' a' w'=>e'=Ex.normal.toExit∧Sim P C0 M0 w0 Ag a' w') (fun a' w' h'=>⟨rfl,h'⟩)
  simpa using this
 | true =>
  obtain ⟨_,s1,h1,k1⟩:=aD h;obtain ⟨e1,rfl⟩:=aE h1;obtain ⟨r,s2,h2,k2⟩:=aD k1;obtain ⟨_,s3,h3,k3⟩:=aD k2;obtain ⟨e3,rfl⟩:=aE h3;obtain ⟨rfl,rfl⟩:=aH k3;obtain ⟨hB,_⟩:=bD e1;obtain ⟨hA,_⟩:=bD e3;obtain ⟨os,hfts,hlex⟩:=pG ops.toList _ (fts:=r.1) (fin:=r.2) h2 g
  replace hB:=vY hB
  unfold Region.lexB at hB
  rw [Bg] at hB
  have hlen:os.length=ops.toList.length:=by
   have:∀ {l:List Oper} {id:Nat} {st:St} {os:List uE} {fin:St},aJe P T E ops.toList id l st os fin→os.length=l.length:=by
    intro l
    induction l with
    | nil=>intro id st os fin h;cases h;rfl
    | cons o l ih=>intro id st os fin h;cases h with | cons _ _ _ _ q os _ h hr=>simp [ih hr]
   exact this hlex
  have key:nD P T E ops.toList st.m.length (fun k=>os.getD k (.any,[],none)) r.2 ops.toList.length (Array.replicate ops.size false) st:=by
   refine nD.lex ops.toList 0 _ st os (fun j=>by simp) (fun j q hj=>by simp [Bj,hj]) (fun j hj=>absurd hj (aOi _)) (fun j oj hj hl => ?_) (fun i j _ hij hj => ?_) (by simpa using hB.2) (by simpa [ido] using hlex)
   ·exfalso
    rcases Nat.lt_or_ge j ops.size with h' | h'
    ·simp [h'] at hl
    ·simp [Nat.not_lt.2 h'] at hl
   have Dm:j<os.length:=by
    rw [hlen];obtain ⟨o,ho⟩:=Option.isSome_iff_exists.1 hj;exact (A2.1 ho).1
   have:=lK r.1 0 hA i j (zO os[i]) (zO os[j]) hij (by rw [hfts,B6,Ap (by omega)];rfl) (by rw [hfts,B6,Ap Dm];rfl)
   rw [fE,fE] at this
   simp only [Bj,Ap Dm,Ap (show i<os.length by omega),Option.getD_some,Array.toArray_toList]
   exact this
  refine wpIn_region_any hm ?_;have:=nD.sound hT hE (C0:=C0) (M0:=M0) (w0:=w0) (ro:=ro) (n:=n) (Q:=fun e' a' w'=>e'=Ex.normal.toExit∧Sim P C0 M0 w0 r.2 a' w') (fun a' w' h'=>⟨rfl,h'⟩) _ _ _ a _ key (hs.drawn (w.drawn+1))
  simpa using this

theorem iE{b:Frame}{a:Act}{k:List Item}{cs:List Frame}{c:Code}:step P (lone (b.atR a (.code (.scope c)::k)) cs w) = .next (lone (b.atR a (.code c :: .inScope c::k)) cs w) :=
 step_lone_go (by simp [stepG,stepG.exec,Frame.atR])
theorem aCy{b:Frame}{a:Act}{k:List Item}{cs:List Frame}{c:Code}:step P (lone (b.atR a (.inScope c::k)) cs w) = .next (lone (b.atR a k) cs w) :=
 step_lone_go (by simp [stepG,stepG.exec,Frame.atR])
theorem aMs{F:Fence}{n:Nat}{c:Code}{Q:Exit→Act→World→Prop}{a:Act}(h:c.wpIn F n P (fun e a w=>(∀ l,e ≠ .goto l)∧Q e a w) a w):(Code.scope c).wpIn F n P Q a w:=by
 intro b k cs hro hb hr;have h0:(lone (b.atR a (.code (.scope c)::k)) cs w).fenced P F:=fenced_calm hb hr rfl;obtain ⟨e,a₁,w₁,⟨hg,hq⟩,harr⟩:=h b (.inScope c::k) cs hro hb hr;cases e with
 | normal=>exact ⟨.normal,a₁,w₁,hq,.head h0 iE (StepsIn.trans harr (.one (fenced_calm hb hr rfl) aCy))⟩
 | exit id =>
  have hx:exitTo id (.inScope c::k)=exitTo id k:=by simp [exitTo]
  exact ⟨.exit id,a₁,w₁,hq,fun k' hk => .head h0 iE (harr.1 k' (by rw [hx];exact hk)),
   fun E5 hk=>let ⟨k₁,h1,h2⟩:=harr.2 E5 (by rw [hx];exact hk);⟨k₁,h1,.head h0 iE h2⟩⟩
 | goto l=>exact absurd rfl (hg l)
 | ret=>exact ⟨_,a₁,w₁,hq,.of_steps (.one h0 iE) harr⟩
 | panic ch=>exact ⟨_,a₁,w₁,hq,.of_steps (.one h0 iE) harr⟩
 | outgrown=>exact ⟨_,a₁,w₁,hq,.of_steps (.one h0 iE) harr⟩

def LoopIn(F:Fence)(n:Nat)(P:Program)(c:Code)(Q:Exit→Act→World→Prop)(a:Act)(w:World):Prop :=
 ∀ (b:Frame) (k:List Item) (cs:List Frame),b.roundOf=F.round→F.fn b.fn→F.room (cs.length+1+n) →
  ∃ e a' w',Q e a' w'∧ArrivesIn (Machine.fenced P F) P (lone (b.atR a (.code c :: .inLoop c::k)) cs w) b k cs e a' w'

theorem LoopIn.step{F:Fence}{n:Nat}{c:Code}{Q:Exit→Act→World→Prop}{a:Act}(h:c.wpIn F n P (Exit.then (LoopIn F n P c Q) Q) a w):LoopIn F n P c Q a w:=by
 intro b k cs hro hb hr;obtain ⟨e,a₁,w₁,hq,harr⟩:=h b (.inLoop c::k) cs hro hb hr;cases e with
 | normal =>
  obtain ⟨e₂,a₂,w₂,hq₂,harr₂⟩:=hq b k cs hro hb hr;exact ⟨e₂,a₂,w₂,hq₂,.of_steps (StepsIn.trans harr (.one (fenced_calm hb hr rfl) stepR_inLoop)) harr₂⟩
 | exit id=>exact ⟨_,a₁,w₁,hq,.pass (x := .inLoop c) rfl (fun _ _ => .inl (by simp)) harr⟩
 | goto l=>exact ⟨_,a₁,w₁,hq,.pass (x := .inLoop c) rfl (fun _ _ => .inl (by simp)) harr⟩
 | ret=>exact ⟨_,a₁,w₁,hq,.pass (x := .inLoop c) rfl (fun _ _ => .inl (by simp)) harr⟩
 | panic ch=>exact ⟨_,a₁,w₁,hq,.pass (x := .inLoop c) rfl (fun _ _ => .inl (by simp)) harr⟩
 | outgrown=>exact ⟨_,a₁,w₁,hq,.pass (x := .inLoop c) rfl (fun _ _ => .inl (by simp)) harr⟩
theorem LoopIn.wp{F:Fence}{n:Nat}{c:Code}{Q:Exit→Act→World→Prop}{a:Act}(h:LoopIn F n P c Q a w):(Code.loop c).wpIn F n P Q a w:=by
 intro b k cs hro hb hr;obtain ⟨e,a',w',hq,harr⟩:=h b k cs hro hb hr;exact ⟨e,a',w',hq,.of_steps (.one (fenced_calm hb hr rfl) stepR_loop) harr⟩
end
section
variable {P:Program} {T:TT} {E:Env} {C C0:Cx} {M M0:Mem} {w w0:World}

theorem aVc{ops:Array Oper}{d:Bool}{st:St}:bP (aJd P T E ops d st):=by
 unfold aJd;split
 ·exact rR
 ·exact aI fun _=>aY nC fun _=>aI fun _=>aJ _
theorem sX{b:St→Ask (Ex × St)}(h:∀ st,bP (b st)):∀ (n:Nat) (st:St),bP (aEa b n st)
 | 0,_=>aP
 | n+1,st=>by
  unfold aEa;refine aY (h st) fun r => ?_
  split
  ·exact sX h n _
  ·exact aJ _
theorem rK{k fuel:Nat}:∀ (c:Code) (st:St),bP (yJ P T E k fuel c st):=by
 intro c
 induction c with
 | skip=>exact fun st=>aJ _
 | region id ops d=>exact kT fun st=>aY aVc fun _=>aJ _
 | seq a b iha ihb =>
  refine kT fun st => ?_
  refine aY (iha st) fun r => ?_
  split
  ·exact ihb _
  ·exact aJ _
 | cond c a b iha ihb =>
  refine kT fun st => ?_
  refine aI fun _=>aY aNh fun _ => ?_
  split
  ·exact iha _
  ·exact ihb _
 | block id b ih =>
  refine kT fun st => ?_
  refine aY (ih st) fun r => ?_
  split
  ·split <;> exact aJ _
  ·exact aJ _
 | loop b ih=>exact kT fun st=>aVd (sX ih _ _)
 | exit id=>exact fun st=>aJ _
 | label l=>exact fun st=>aJ _
 | scope b ih=>exact ih
 | ret=>exact fun st=>aJ _
 | _=>exact kT fun st=>aP

theorem xL{K:Nat}{c:Code}{b:St→Ask (Ex × St)}(hm:∀ st,bP (b st))(h:∀ {st e Ag s s'},b st s=some ((e,Ag),s')→aW s'→aC P K c st e Ag):∀ (n:Nat) {st:St} {e:Ex} {Ag:St} {s s':AS},aEa b n st s=some ((e,Ag),s')→aW s' →
  ∀ (C0:Cx) (M0:Mem) (w0:World) (a:Act) (w:World),M0.length≤K→Sim P C0 M0 w0 st a w→∀ (ro:Option Nat),kA ro c→∀ (k:Nat),LoopIn (Fen ro) k P c (fun e' a' w'=>e'=e.toExit∧e' ≠ .normal∧Sim P C0 M0 w0 Ag a' w') a w
 | 0,st,e,Ag,s,s',h0,_=>(aQ h0).elim
 | n+1,st,e,Ag,s,s',h0,g=>by
  intro C0 M0 w0 a w hK hs ro hro k;unfold aEa at h0
  obtain ⟨⟨e1,st1⟩,s1,h1,k1⟩:=aD h0;refine LoopIn.step ?_;cases e1 with
  | normal =>
   have g1:=(sX hm n st1).good k1 g;have ih:=xL hm h n k1 g C0 M0 w0;refine wpIn_mono (h h1 g1 C0 M0 w0 a w hK hs ro hro k) ?_;rintro e' a' w' ⟨rfl,Bt⟩;exact ih a' w' hK Bt ro hro k
  | ret =>
   obtain ⟨he,rfl⟩:=aH k1;cases he;refine wpIn_mono (h h1 g C0 M0 w0 a w hK hs ro hro k) ?_;rintro e' a' w' ⟨rfl,Bt⟩;exact ⟨rfl,nofun,Bt⟩
  | exit id =>
   obtain ⟨he,rfl⟩:=aH k1;cases he;refine wpIn_mono (h h1 g C0 M0 w0 a w hK hs ro hro k) ?_;rintro e' a' w' ⟨rfl,Bt⟩;exact ⟨rfl,nofun,Bt⟩

theorem zL(hT:∀ t i,T t=some i→bU P t=some i)(hE:kI P E)(hm:P.follows .mixedOrders=true){k fuel:Nat}:∀ (c:Code) {st:St} {e:Ex} {Ag:St} {s s':AS},yJ P T E k fuel c st s=some ((e,Ag),s')→aW s'→aC P k c st e Ag:=by
 intro c
 induction c with
 | skip =>
  intro st e Ag s s' h g C0 M0 w0 a w hk hs ro hro n;obtain ⟨he,rfl⟩:=aH h;cases he;exact wpIn_skip ⟨rfl,hs⟩
 | region id ops d =>
  intro st e Ag s s' h g;refine jD ?_ h g;intro st Ag e s s' h g;obtain ⟨st1,s1,h1,k1⟩:=aD h;obtain ⟨he,rfl⟩:=aH k1;cases he;exact aMr hT hE hm h1 g
 | seq a b iha ihb =>
  intro st e Ag s s' h g;refine jD ?_ h g;intro st Ag e s s' h g C0 M0 w0 ac w hk hs ro hro n;obtain ⟨⟨e1,st1⟩,s1,h1,k1⟩:=aD h;refine wpIn_seq ?_;cases e1 with
  | normal =>
   have g1:=(rK b st1).good k1 g;refine wpIn_mono (iha h1 g1 C0 M0 w0 ac w hk hs ro hro.seq1 n) ?_;rintro e' a' w' ⟨rfl,Bt⟩;exact ihb k1 g C0 M0 w0 a' w' hk Bt ro hro.seq2 n
  | ret =>
   obtain ⟨he,rfl⟩:=aH k1;cases he;refine wpIn_mono (iha h1 g C0 M0 w0 ac w hk hs ro hro.seq1 n) ?_;rintro e' a' w' ⟨rfl,Bt⟩;exact ⟨rfl,Bt⟩
  | exit id =>
   obtain ⟨he,rfl⟩:=aH k1;cases he;refine wpIn_mono (iha h1 g C0 M0 w0 ac w hk hs ro hro.seq1 n) ?_;rintro e' a' w' ⟨rfl,Bt⟩;exact ⟨rfl,Bt⟩
 | cond c a b iha ihb =>
  intro st e Ag s s' h g;refine jD ?_ h g;intro st Ag e s s' h g C0 M0 w0 ac w hk hs ro hro n;obtain ⟨x,s1,h1,k1⟩:=aD h;obtain ⟨e1,rfl⟩:=aE h1;obtain ⟨d,s2,h2,k2⟩:=aD k1;have H6:=hs;obtain ⟨C,hS,_⟩:=H6;cases d with
  | true =>
   obtain ⟨hb,_⟩:=oF (hS.ev e1) h2 ((rK a st).good k2 g);exact wpIn_cond_true hb (iha k2 g C0 M0 w0 ac w hk hs ro hro.cond1 n)
  | false =>
   obtain ⟨hb,_⟩:=oF (hS.ev e1) h2 ((rK b st).good k2 g);exact wpIn_cond_false hb (ihb k2 g C0 M0 w0 ac w hk hs ro hro.cond2 n)
 | block id b ih =>
  intro st e Ag s s' h g;refine jD ?_ h g;intro st Ag e s s' h g C0 M0 w0 ac w hk hs ro hro n;obtain ⟨⟨e1,st1⟩,s1,h1,k1⟩:=aD h;refine wpIn_block ?_;cases e1 with
  | normal =>
   obtain ⟨he,rfl⟩:=aH k1;cases he;refine wpIn_mono (ih h1 g C0 M0 w0 ac w hk hs ro hro.block n) ?_;rintro e' a' w' ⟨rfl,Bt⟩;exact ⟨rfl,Bt⟩
  | ret =>
   obtain ⟨he,rfl⟩:=aH k1;cases he;refine wpIn_mono (ih h1 g C0 M0 w0 ac w hk hs ro hro.block n) ?_;rintro e' a' w' ⟨rfl,Bt⟩;exact ⟨rfl,Bt⟩
  | exit i =>
   dsimp only at k1
   cases hb:Nat.beq i id with
   | true =>
    rw [hb] at k1
    obtain ⟨he,rfl⟩:=aH k1;cases he;have hid:i=id:=Nat.eq_of_beq_eq_true hb;refine wpIn_mono (ih h1 g C0 M0 w0 ac w hk hs ro hro.block n) ?_;rintro e' a' w' ⟨rfl,Bt⟩;simp only [Ex.toExit,Exit.inBlock,hid,if_true];exact ⟨trivial,Bt⟩
   | false =>
    rw [hb] at k1
    obtain ⟨he,rfl⟩:=aH k1;cases he;have hid:i≠id:=Nat.ne_of_beq_eq_false hb;refine wpIn_mono (ih h1 g C0 M0 w0 ac w hk hs ro hro.block n) ?_;rintro e' a' w' ⟨rfl,Bt⟩;simp only [Ex.toExit,Exit.inBlock,hid,if_false];exact ⟨trivial,Bt⟩
 | loop b ih =>
  intro st e Ag s s' h g;refine jD ?_ h g;intro st Ag e s s' h g C0 M0 w0 ac w hk hs ro hro n;refine wpIn_mono (LoopIn.wp (xL (rK b) ih fuel (bDe h) g C0 M0 w0 ac w hk hs ro hro.loop n)) ?_;rintro e' a' w' ⟨h1,_,h2⟩;exact ⟨h1,h2⟩
 | exit id =>
  intro st e Ag s s' h g C0 M0 w0 a w hk hs ro hro n;obtain ⟨he,rfl⟩:=aH h;cases he;exact wpIn_exit ⟨rfl,hs⟩
 | label l =>
  intro st e Ag s s' h g C0 M0 w0 a w hk hs ro hro n;obtain ⟨he,rfl⟩:=aH h;cases he;exact wpIn_label ⟨rfl,hs⟩
 | scope b ih =>
  intro st e Ag s s' h g C0 M0 w0 a w hk hs ro hro n;refine aMs (wpIn_mono (ih h g C0 M0 w0 a w hk hs ro hro.scope n) ?_);rintro e' a' w' ⟨rfl,Bt⟩;exact ⟨fun l=>by cases e <;> simp [Ex.toExit],rfl,Bt⟩
 | ret =>
  intro st e Ag s s' h g C0 M0 w0 a w hk hs ro hro n;obtain ⟨he,rfl⟩:=aH h;cases he;exact wpIn_ret ⟨rfl,hs⟩
 | _ =>
  intro st e Ag s s' h g;refine jD ?_ h g;intro st Ag e s s' h g;exact (aQ h).elim
end
section
variable {P:Program} {T:TT} {E:Env} {C C0:Cx} {M M0:Mem} {w w0:World}

def bXb(T:TT)(st:St):ResultVar→Ask AV
 | .tmp t=>lift st.t[t]?
 | .cell a t=>do
  let x ← lift st.t[a]?
  vload T st.m t x
def aMo(T:TT)(st:St):List ResultVar→Ask (List AV)
 | []=>pure []
 | r::l=>do
  let x ← bXb T st r
  let xs ← aMo T st l
  pure (x::xs)
def bDc:List AV→AV
 | [x]=>x
 | l => .tup l

def aDx:Mem→Bool
 | []=>true
 | some (.pk _ _ _ _)::_=>false
 | _::r=>aDx r
theorem mZ:∀ {m:Mem},aDx m=true→aNd m
 | [],_,i,o,h=>by simp at h
 | none::r,hm,i,o,h=>by
  cases i with
  | zero=>simp at h
  | succ i=>exact mZ (m:=r) hm i o (by simpa using h)
 | some x::r,hm,i,o,h=>by
  cases i with
  | zero =>
   simp at h;subst h
   cases x with
   | pk=>simp [aDx] at hm
   | _=>rfl
  | succ i =>
   refine mZ (m:=r) ?_ i o (by simpa using h)
   cases x with
   | pk=>simp [aDx] at hm
   | _=>simpa [aDx] using hm
def aMp(P:Program)(T:TT)(E:Env)(fuel:Nat)(fn:Func)(c:Code)(args:List AV)(m:Mem):Ask (AV × Mem):=do
 lift (if aDx m=true then some () else none)
 let r ← yJ P T E m.length fuel c ⟨args++List.replicate (fn.ntmps-args.length) .any,m⟩
 match r.1 with
 | .exit _=>fail
 | _=>do
  let l ← aMo T r.2 fn.results.toList
  pure (bDc l,r.2.m)

def FMM(P:Program)(f:Nat)(args:List AV)(M:Mem)(r:AV)(M':Mem):Prop :=
 ∀ (C:Cx) (w:World) (us:List Value),cG C M w args us→aO P C M w→∀ n,CallsIn Fence.wide n P f us.toArray w (fun e w'=>∃ u,e = .returned u∧∃ C',Fr C M w C' M' w'∧aO P C' M' w'∧Rep C' M' w' r u)

def sW(P:Program)(f:Nat)(args:List AV)(M:Mem)(r:AV)(M':Mem):Prop :=
 ∀ (C:Cx) (w:World) (us:List Value),cG C M w args us→aO P C M w→∀ n,CallsIn Fence.wide n P f us.toArray w (fun e w'=>∃ u,e = .returned u∧∃ C',Fr C M w C' M' w'∧aO P C' M' w'∧Rep C' M' w' r u∧kZ (C.with []) M M' C' w w')
theorem sW.fmm{f:Nat}{args:List AV}{M M':Mem}{r:AV}(h:sW P f args M r M'):FMM P f args M r M':=fun C w us hus hM n=>(h C w us hus hM n).mono fun _ w' ⟨u,q,C',h1,h2,h3,_⟩=>⟨u,q,C',h1,h2,h3⟩

theorem vX{st:St}:∀ (l:List ResultVar),bP (aMo T st l)
 | []=>aJ _
 | r::l=>by
  unfold aMo;refine aY ?_ fun _=>aY (vX l) fun _=>aJ _
  cases r with
  | tmp t=>exact kV _
  | cell a t=>exact aI fun _=>aAb

def zJ(tmps:Array Value):ResultVar→Sem Value
 | .tmp t=>pure (tmps.getD t undef)
 | .cell a t=>do loadVar t (← asAddr (tmps.getD a undef))

theorem aVb{t:Nat}{y x:AV}{u:Value}{s s':AS}(h:vload T M t y s=some (x,s'))(hy:Rep C M w y u):∃ p,u = .pointer (some p):=by
 unfold vload at h
 obtain ⟨i,s1,h1,k1⟩:=aD h
 split at k1
 ·rename_i id off
  obtain ⟨o,s2,h2,k2⟩:=aD k1;obtain ⟨e2,rfl⟩:=aE h2;have hl:o.live=true:=by
   cases o with
   | dead=>exact (aQ k2).elim
   | _=>rfl
  obtain ⟨b,hu,_⟩:=fJ hy (gX (dJ e2) hl);exact ⟨_,hu⟩
 ·cases hy;exact ⟨_,rfl⟩
 ·exact (aQ k1).elim

theorem aMq(hT:∀ t i,T t=some i→bU P t=some i)(hM:aO P C M w){ts:List AV}{us:Array Value}(hS:dO C M w ts us){r:ResultVar}{x:AV}{s s':AS}(h:bXb T ⟨ts,M⟩ r s=some (x,s'))(g:aW s') :
  ∃ u,(zJ us r).run P w = .ok u w∧Rep C M w x u:=by
 cases r with
 | tmp t =>
  obtain ⟨e1,rfl⟩:=aE h;exact ⟨_,rfl,hS.at e1⟩
 | cell a t =>
  obtain ⟨y,s1,h1,k1⟩:=aD h;obtain ⟨e1,rfl⟩:=aE h1;obtain ⟨_,u,h2,h3⟩:=xX hT hM (hS.at e1) k1 g
  refine ⟨u,?_,h3⟩;obtain ⟨p,hp⟩:=aVb k1 (hS.at e1)
  unfold Instr.loadAt at h2
  simp only [zJ];rw [hp] at h2 ⊢
  exact h2

theorem zK(hT:∀ t i,T t=some i→bU P t=some i)(hM:aO P C M w){ts:List AV}{us:Array Value}(hS:dO C M w ts us):∀ (l:List ResultVar) {xs:List AV} {s s':AS},aMo T ⟨ts,M⟩ l s=some (xs,s')→aW s' →
  ∃ vs:List Value,(l.mapM (zJ us)).run P w = .ok vs w∧cG C M w xs vs
 | [],xs,s,s',h,g=>by
  obtain ⟨rfl,rfl⟩:=aH h;exact ⟨[],rfl,.nil⟩
 | r::l,xs,s,s',h,g=>by
  obtain ⟨x,s1,h1,k1⟩:=aD h;obtain ⟨ys,s2,h2,k2⟩:=aD k1;obtain ⟨rfl,rfl⟩:=aH k2;obtain ⟨u,e1,r1⟩:=aMq hT hM hS h1 ((vX l).good h2 g);obtain ⟨vs,e2,r2⟩:=zK hT hM hS l h2 g;refine ⟨u::vs,?_,.cons _ _ _ _ r1 r2⟩;rw [List.mapM_cons,Sem.run_bind,e1,Result.andThen_ok,Sem.run_bind,e2,Result.andThen_ok,Sem.run_pure]

theorem aJc{fn:Func}{us:Array Value}{vs:List Value}(h:(fn.results.toList.mapM (zJ us)).run P w = .ok vs w):(results fn us).run P w = .ok (if _:vs.length=1 then vs[0] else .tuple vs.toArray) w:=by
 have e:(results fn us)=(do let vs ← fn.results.mapM (zJ us);pure (if h:vs.size=1 then vs[0] else .tuple vs)):=by
  unfold results
  congr 1
 rw [e,Sem.run_bind,Array.mapM_eq_mapM_toList,Sem.run_map,h,Result.andThen_ok,Result.andThen_ok,Sem.run_pure]
 congr 1

theorem bIi{xs:List AV}{vs:List Value}(h:cG C M w xs vs):Rep C M w (bDc xs) (if _:vs.length=1 then vs[0] else .tuple vs.toArray):=by
 have hl:=h.len;cases h with
 | nil=>exact .tup [] _ rfl (fun i h=>by simp at h)
 | cons x u l k hx hr =>
  cases hr with
  | nil=>exact hx
  | cons y v l k hy hr =>
   have hne:¬ (u::v::k).length=1:=by simp
   rw [dif_neg hne];refine .tup _ _ (by simpa using hl) (fun i hi => ?_)
   have:=(cG.cons x u _ _ hx (cG.cons y v l k hy hr)).at i hi
   rwa [← bN] at this

theorem Sim.take{st:St}{a:Act}{d:Deferred}{ds:List Deferred}(h:Sim P C0 M0 w0 st a w)(hd:a.defers=d::ds):∃ D,d=mark D∧w.heap[D]? = some (.deferred (some []))∧Sim P C0 M0 w0 st { a with defers:=ds } (w.putObj D (.deferred none)):=by
 obtain ⟨C,hS,hM,hF,⟨l,h1,h2,h3⟩,hR,hP⟩:=h;rw [hd] at h1
 cases l with
 | nil=>simp at h1
 | cons D l =>
  rw [gT,List.cons.injEq] at h1
  obtain ⟨rfl,rfl⟩:=h1;obtain ⟨q1,q2,q3⟩:=h3 D (by simp)
  obtain ⟨hnd,Oo⟩:=List.nodup_cons.1 h2;have hg:=grownBy_putObj' w D (.deferred none);have hsz:(w.putObj D (.deferred none)).heap.size=w.heap.size:=by simp [World.putObj]
  have hk:∀ b,b≠D→(w.putObj D (.deferred none)).heap[b]? = w.heap[b]? := fun b hb=>by
   rcases Nat.lt_or_ge b w.heap.size with h | h
   ·exact hg.block b h (by simpa using hb)
   ·rw [Array.getElem?_eq_none h,Array.getElem?_eq_none (by omega)]
  have hlive:∀ (id:Nat) (o:AO) (b:Nat),st.m[id]? = some (some o)→o.live=true→C.ι id=some b→b≠D:=fun id o b ho hl hb e=>by
   subst e;exact aJp hM hP ho hl hb q1
  have hL:Le C C st.m st.m w (w.putObj D (.deferred none)):=⟨fun _ o h=>⟨o,h⟩,fun _ _ _ _ _ cs h=>⟨cs,h⟩,fun _ o h o' h' hl=>by rw [h] at h';cases h';exact ⟨hl,rfl,rfl⟩,fun _ h=>h,fun b hb=>hk b fun e=>q3 (e ▸ hb)⟩
  refine ⟨D,rfl,q1,C,hS.le hL,⟨fun i Cb n cs hm => ?_,fun i Cb cs hm => ?_,fun i es cl hm => ?_,hM.inj,hM.nF,fun b hb=>by rw [hsz];exact hM.Fs b hb,fun i x b hm hl hb=>by rw [hsz];exact hM.lt i x b hm hl hb⟩,
   ⟨hg.os.trans hF.os,hg.tape.trans hF.tape,hg.output.trans hF.out,fL hF.size hg.size,fun b hb hn=>(hk b (by omega)).trans (hF.keep b hb hn),hF.ids,hF.row,hF.liv,hF.new,hF.F1,hF.F2⟩,⟨l,rfl,Oo,fun D' H3 => ?_⟩,fun p hp => ?_,fun i to ti sz L hm => ?_,hP.2⟩
  ·rcases hM.row _ _ _ _ hm with h4 | ⟨b,arr,inf,q0,H4,H5,Iv,q4,q5,q6,q7,q8⟩
   ·exact .inl h4
   ·exact .inr ⟨b,arr,inf,q0,by rw [hk b (hlive _ _ _ hm rfl q0)];exact H4,H5,Iv,q4,q5,q6,fun j hj=>(q7 j hj).mono hL.F hL.fz,q8⟩
  ·obtain ⟨b,arr,q0,H4,H5,Iv,q4⟩:=hM.box _ _ _ hm
   exact ⟨b,arr,q0,by rw [hk b (hlive _ _ _ hm rfl q0)];exact H4,H5,fun j hj=>(Iv j hj).mono hL,q4⟩
  ·obtain ⟨b,arr,q0,H4,H5,Iv⟩:=hM.mp _ _ _ hm
   refine ⟨b,arr,q0,by rw [hk b (hlive _ _ _ hm rfl q0)];exact H4,H5,fun j hj => ?_⟩
   obtain ⟨en,r1,r2,r3,r4⟩:=Iv j hj;exact ⟨en,r1,r2,r3,r4.mono hL.F hL.fz⟩
  ·obtain ⟨r1,r2,r3⟩:=h3 D' (B7 _ H3)
   exact ⟨by rw [hk D' (fun e=>hnd (e ▸ H3))];exact r1,r2,r3⟩
  ·obtain ⟨r1,r2,r3,r4,r5⟩:=hR p hp
   exact ⟨by rw [hk p.1 (fun e=>r3 (by rw [e,q1] at r1;exact (Option.some.inj r1).symm))];exact r1,r2,r3,r4,r5⟩
  ·obtain ⟨p,p0,p1⟩:=hP.1 _ _ _ _ _ hm
   exact ⟨p.move p.io rfl (fun _ h=>h) hL.fz fun b hb=>⟨hk b (fun e=>by
    obtain ⟨_,arr,ty,r1⟩:=p.lt hb;rw [e,q1] at r1;cases r1),p.own b hb⟩,p0,p1⟩

theorem xK(hT:∀ t i,T t=some i→bU P t=some i)(hE:kI P E)(hm:P.follows .mixedOrders=true){fuel f:Nat}{fn:Func}{c:Code}(hf:P.funcs[f]? = some fn)(hb:fn.body=some c){args:List AV}{r:AV}{M':Mem}{s s':AS}
  (h:aMp P T E fuel fn c args M s=some ((r,M'),s')) (g:aW s'):sW P f args M r M':=by
 intro C w us hus hM n;unfold aMp at h
 obtain ⟨_,s0,h0,k0⟩:=aD h;obtain ⟨e0,rfl⟩:=aE h0;have hnp:=mZ (bD e0).1;obtain ⟨⟨e,st⟩,s1,h1,k1⟩:=aD k0;have hlen:=hus.len;have hS:dO C M w (args++List.replicate (fn.ntmps-args.length) .any) (us.toArray++Array.replicate (fn.ntmps-us.toArray.size) undef):=by
  refine ⟨by simp [hlen],fun i hi => ?_⟩
  by_cases c1:i<args.length
  ·rw [yN c1,A4,Array.getElem?_append_left (by simp;omega)]
   have:=hus.at i c1
   rwa [← bN,A4] at this
  ·rw [aKs (by omega),List.getElem_replicate]
   exact .any _
 have hsim:Sim P (C.with []) M w ⟨args++List.replicate (fn.ntmps-args.length) .any,M⟩ { tmps:=us.toArray++Array.replicate (fn.ntmps-us.toArray.size) undef,defers:=[] } w:=⟨C,hS,hM,(Fr.refl ..).based [],.nil rfl hnp⟩
 refine callsIn_of_wp_marks hf hb trivial ?_;have fin:∀ (e':Exit) (a':Act) (w':World),(e' = .normal∨e' = .ret)→Sim P (C.with []) M w st a' w'→(∃ l s2,aMo T st fn.results.toList s1=some (l,s2)∧aW s2∧r=bDc l∧M'=st.m)→bodyPostM Fence.wide n P fn (fun e w'=>∃ u,e = .returned u∧∃ C',Fr C M w C' M' w'∧aO P C' M' w'∧Rep C' M' w' r u∧kZ (C.with []) M M' C' w w') e' a' w':=by
  rintro e' a' w' he Bt ⟨l,s2,h2,g2,rfl,rfl⟩;have key:∀ (ds:List Deferred) (a':Act) (w':World),a'.defers=ds→Sim P (C.with []) M w st a' w'→LeavesInM Fence.wide n P fn a'.tmps (fun e w'=>∃ u,e = .returned u∧∃ C',Fr C M w C' st.m w'∧aO P C' st.m w'∧Rep C' st.m w' (bDc l) u∧kZ (C.with []) M st.m C' w w') ds .returning w':=by
   intro ds
   induction ds with
   | nil =>
    rintro a' w' hd ⟨C',Sn,E1,N6,_,_,Sq⟩;obtain ⟨ts,m⟩:=st;obtain ⟨vs,e2,r2⟩:=zK hT E1 Sn fn.results.toList h2 g2;exact ⟨_,aJc e2,_,rfl,C',N6.unbased,E1,bIi r2,Sq⟩
   | cons d ds ih =>
    intro a' w' hd Bt;obtain ⟨D,rfl,hD,Iw⟩:=Bt.take hd;exact ⟨by simp,.inl ⟨_,_,rfl,run_takeDeferred hD,ih { a' with defers:=ds } _ rfl Iw⟩⟩
  rcases he with rfl | rfl
  ·exact key _ a' w' rfl Bt
  ·exact key _ a' w' rfl Bt
 have out:(e = .normal∨e = .ret)∧∃ l s2,aMo T st fn.results.toList s1=some (l,s2)∧aW s2∧r=bDc l∧M'=st.m:=by
  cases e with
  | exit id=>exact (aQ k1).elim
  | normal =>
   obtain ⟨l,s2,h2,k2⟩:=aD k1;obtain ⟨he,rfl⟩:=aH k2;cases he;exact ⟨.inl rfl,l,_,h2,g,rfl,rfl⟩
  | ret =>
   obtain ⟨l,s2,h2,k2⟩:=aD k1;obtain ⟨he,rfl⟩:=aH k2;cases he;exact ⟨.inr rfl,l,_,h2,g,rfl,rfl⟩
 obtain ⟨he,l,s2,h2,g2,e3,e4⟩:=out;have g1:=(vX _).good h2 g2;refine wpIn_mono (zL hT hE hm c h1 g1 (C.with []) M w _ w (cP _) hsim none (.inl rfl) n) ?_
 rintro e' a' w' ⟨rfl,Bt⟩;exact fin _ a' w' (by rcases he with rfl | rfl <;> simp [Ex.toExit]) Bt ⟨l,s2,h2,g2,e3,e4⟩
end
section
variable {P:Program} {T:TT} {E:Env} {C C0:Cx} {M M0:Mem} {w w0:World}

mutual
def aGa:PV→Bool
 | .v _=>true
 | .sl _ cs=>match cs with
  | []=>true
  | _=>false
 | .agg cs=>aDw cs
 | .mp _=>false
 | .rp _ _=>false
 | .fn _ _ _=>false
def aDw:List PV→Bool
 | []=>true
 | x::r=>match aGa x with
  | true=>aDw r
  | false=>false
end
mutual
def rig:AV→Bool
 | .p x=>aGa x
 | .kb _=>true
 | .any=>true
 | .yld _=>true
 | .agg cs=>aMn cs
 | .fn _ a b=>match aMn a with
  | true=>aMn b
  | false=>false
 | _=>false
def aMn:List AV→Bool
 | []=>true
 | x::r=>match rig x with
  | true=>aMn r
  | false=>false
end
mutual
def noRef:AV→Bool
 | .p _=>true
 | .kb _=>true
 | .any=>true
 | .yld _=>true
 | .rp _ _=>true
 | .agg cs=>iL cs
 | .fn _ a b=>match iL a with
  | true=>iL b
  | false=>false
 | _=>false
def iL:List AV→Bool
 | []=>true
 | x::r=>match noRef x with
  | true=>iL r
  | false=>false
end

theorem zI:∀ {l:List PV},aDw l=true→∀ i (h:i<l.length),aGa l[i]=true
 | [],_,i,h=>by simp at h
 | x::r,hr,i,h=>by
  unfold aDw at hr
  split at hr
  ·cases i with
   | zero=>assumption
   | succ i=>exact zI hr i (by simpa using h)
  ·cases hr
theorem yV:∀ {l:List AV},aMn l=true→∀ i (h:i<l.length),rig l[i]=true
 | [],_,i,h=>by simp at h
 | x::r,hr,i,h=>by
  unfold aMn at hr
  split at hr
  ·cases i with
   | zero=>assumption
   | succ i=>exact yV hr i (by simpa using h)
  ·cases hr
theorem mY:∀ {l:List AV},iL l=true→∀ i (h:i<l.length),noRef l[i]=true
 | [],_,i,h=>by simp at h
 | x::r,hr,i,h=>by
  unfold iL at hr
  split at hr
  ·cases i with
   | zero=>assumption
   | succ i=>exact mY hr i (by simpa using h)
  ·cases hr

theorem bW.rig{F G:Nat→Prop}{w w':World}{x:PV}{u:Value}(h:bW F w x u)(hr:aGa x=true):bW G w' x u:=by
 induction h with
 | v x=>exact .v x
 | sl n cs p cap us h1 h2 h3 _ h5 ih =>
  cases cs with
  | nil=>exact .sl n [] p cap us h1 h2 (fun i h=>by simp at h) (fun i h=>by simp at h) (fun i h=>by simp at h)
  | cons=>simp [aGa] at hr
 | agg cs vs h0 h1 _ ih =>
  have E5:aDw cs=true:=by simpa [aGa] using hr
  exact .agg cs vs h0 h1 fun i hi=>ih i hi (zI E5 i hi)
 | mp=>simp [aGa] at hr
 | rp=>simp [aGa] at hr
 | fn=>simp [aGa] at hr

theorem Rep.rig{C C':Cx}{M M':Mem}{w w':World}{x:AV}{u:Value}(h:Rep C M w x u)(hr:rig x=true):Rep C' M' w' x u:=by
 induction h with
 | p x u h=>exact .p x u (h.rig (by simpa [KV.rig] using hr))
 | any u=>exact .any u
 | kb b=>exact .kb b
 | yld l=>exact .yld l
 | agg cs vs h0 h1 _ ih =>
  have E5:aMn cs=true:=by simpa [KV.rig] using hr
  exact .agg cs vs h0 h1 fun i hi=>ih i hi (yV E5 i hi)
 | fn f cs ds us vs h1 h2 _ _ G5 G6 =>
  simp only [KV.rig] at hr
  split at hr
  ·rename_i Fo
   exact .fn f cs ds us vs h1 h2 (fun i hi=>G5 i hi (yV Fo i hi)) (fun i hi=>G6 i hi (yV hr i hi))
  ·cases hr
 | _=>simp [KV.rig] at hr

theorem Rep.noRef{C C':Cx}{M M':Mem}{w w':World}{x:AV}{u:Value}(h:Rep C M w x u)(hr:noRef x=true)(hF:∀ b,C.F b→C'.F b)(hz:∀ b,C.F b→w'.heap[b]? = w.heap[b]?):Rep C' M' w' x u:=by
 induction h with
 | p x u h=>exact .p x u (h.mono hF hz)
 | any u=>exact .any u
 | kb b=>exact .kb b
 | yld l=>exact .yld l
 | rp cs off b o us h1 h2 h3=>exact .rp cs off b o us (fun i hi=>⟨hF _ (h1 i hi).1,(dR (hz _ (h1 i hi).1) _).trans (h1 i hi).2⟩) (fun i hi=>(h2 i hi).mono hF hz) h3
 | agg cs vs h0 h1 _ ih =>
  have E5:iL cs=true:=by simpa [KV.noRef] using hr
  exact .agg cs vs h0 h1 fun i hi=>ih i hi (mY E5 i hi)
 | fn f cs ds us vs h1 h2 _ _ G5 G6 =>
  simp only [KV.noRef] at hr
  split at hr
  ·rename_i Fo
   exact .fn f cs ds us vs h1 h2 (fun i hi=>G5 i hi (mY Fo i hi)) (fun i hi=>G6 i hi (mY hr i hi))
  ·cases hr
 | _=>simp [KV.noRef] at hr

def Cx.bare(C:Cx)(G:Nat→Prop):Cx:={ ι:=fun _=>none,κ:=C.κ,F:=G }

section
variable {G:Nat→Prop} (hM:aO P C M w) (hG:∀ b,C.F b→G b) (hO:∀ (id:Nat) (o:AO) (b:Nat),M[id]? = some (some o)→o.live=true→C.ι id=some b→G b)
include hM hG hO

theorem xI{x:AV}{u:Value}{y:PV}(h:Rep C M w x u)(hv:Du M x=some y):bW G w y u:=by
 unfold Du at hv
 split at hv
 ·cases hv;cases h with | p _ _ h=>exact h.mono hG (fun _ _=>rfl)
 ·cases hv;cases h;exact .v _
 ·split at hv
  ·rename_i id _ r hr
   cases hv;have ho:=cN hr;refine (tI hM ho h).mono (fun b hb => ?_) (fun _ _=>rfl)
   rcases hb with hb | ⟨_,hb⟩
   ·exact hG b hb
   ·exact hO _ _ b ho rfl hb
  ·cases hv
 ·cases hv

theorem xJ:∀ {l:List AV} {us:Nat→Value} {ys:List PV},(∀ i (h:i<l.length),Rep C M w l[i] (us i))→aAe M l=some ys→ys.length=l.length∧∀ i (h:i<ys.length),bW G w ys[i] (us i)
 | [],_,ys,_,hv=>by cases hv;exact ⟨rfl,fun i h=>by simp at h⟩
 | x::r,us,ys,h,hv=>by
  unfold aAe at hv
  split at hv
  ·rename_i y h1
   split at hv
   ·rename_i l h2
    cases hv;obtain ⟨q1,q2⟩:=xJ (us:=fun i=>us (i+1)) (fun i hi=>h (i+1) (by simpa using hi)) h2
    refine ⟨by simp [q1],fun i hi => ?_⟩
    cases i with
    | zero=>exact xI hM hG hO (h 0 (by simp)) h1
    | succ i=>exact q2 i (by simpa using hi)
   ·cases hv
  ·cases hv

set_option linter.unusedSectionVars false in
mutual
theorem sV:∀ {x:AV} {u:Value} {y:AV},Rep C M w x u→view M x=some y→Rep (C.bare G) [] w y u
 | .p x,u,y,h,hv=>by
  simp only [view] at hv
  cases hv;cases h with | p _ _ h=>exact .p _ _ (h.mono hG (fun _ _=>rfl))
 | .kb b,u,y,h,hv=>by simp only [view] at hv;cases hv;cases h;exact .kb _
 | .any,u,y,h,hv=>by simp only [view] at hv;cases hv;exact .any _
 | .yld l,u,y,h,hv=>by simp only [view] at hv;cases hv;cases h;exact .yld _
 | .own id,u,y,h,hv=>by
  simp only [view] at hv
  split at hv
  ·rename_i r hr
   cases hv;exact .p _ _ (xI hM hG hO h (by simp only [Du,hr]))
  ·cases hv
 | .rp cs off,u,y,h,hv=>by
  simp only [view] at hv
  cases hv;cases h with
  | rp _ _ b o us h1 h2 h3=>exact .rp cs off b o us (fun i hi=>⟨hG _ (h1 i hi).1,(h1 i hi).2⟩) (fun i hi=>(h2 i hi).mono hG (fun _ _=>rfl)) h3
 | .ptr id off,u,y,h,hv=>by
  simp only [view] at hv
  split at hv
  ·rename_i ty n cs ho
   cases hv;have ho:=dJ ho;obtain ⟨b,rfl,hb⟩:=fJ h (gX ho rfl)
   rcases hM.row _ _ _ _ ho with ⟨hn,_⟩ | ⟨b',arr,inf,Aj,q1,q2,q3,q4,q5,q6,q7,q8⟩
   ·rw [hb] at hn;cases hn
   ·rw [hb] at Aj;cases Aj
    have hle:cs.length≤arr.size:=by rw [q3,q4];exact Nat.mul_le_mul_right _ q5
    have:=Rep.rp (C:=C.bare G) (M:=[]) (w:=w) cs off b 0 (fun j=>arr.getD j undef) (fun i hi=>⟨hO _ _ b ho rfl hb,by rw [fE];exact bH q1 (by omega)⟩) (fun i hi=>(q7 i hi).mono hG (fun _ _=>rfl)) q8
    rwa [fE] at this
  ·rename_i ty cs ho
   have ho:=dJ ho
   split at hv
   ·rename_i xs hx
    cases hv;obtain ⟨b,rfl,hb⟩:=fJ h (gX ho rfl);obtain ⟨b',arr,Aj,q1,q2,q3,q4⟩:=hM.box _ _ _ ho;rw [hb] at Aj;cases Aj
    obtain ⟨r1,r2⟩:=xJ hM hG hO (us:=fun j=>arr.getD j undef) q3 hx
    have:=Rep.rp (C:=C.bare G) (M:=[]) (w:=w) xs off b 0 (fun j=>arr.getD j undef) (fun i hi=>⟨hO _ _ b ho rfl hb,by rw [fE];exact bH q1 (by omega)⟩) r2 (fun i hi=>q4 i (by omega))
    rwa [fE] at this
   ·cases hv
  ·cases hv
 | .agg cs,u,y,h,hv=>by
  simp only [view] at hv
  split at hv
  ·rename_i xs hx
   cases hv;cases h with
   | agg _ vs h0 h1 h2 =>
    obtain ⟨q1,q2⟩:=jT (us:=fun i=>vs.getD i undef) h2 hx
    exact jU (fun i hi=>h0 i (by omega)) (by omega) q2
  ·cases hv
 | .fn f a b,u,y,h,hv=>by
  simp only [view] at hv
  split at hv
  ·rename_i a' ha
   split at hv
   ·rename_i b' hb
    cases hv;cases h with
    | fn _ _ _ us vs h1 h2 h3 h4 =>
     obtain ⟨q1,q2⟩:=jT (us:=fun i=>us.getD i undef) h3 ha
     obtain ⟨r1,r2⟩:=jT (us:=fun i=>vs.getD i undef) h4 hb
     exact .fn f a' b' us vs (by omega) (by omega) q2 r2
   ·cases hv
  ·cases hv
 | .arr id off n,u,y,h,hv=>by
  simp only [view] at hv
  split at hv
  ·rename_i r hr
   cases hv;have ho:=cN hr;cases h with
   | arr _ _ _ u h0 ha hrow =>
    rcases hrow _ ho rfl with ⟨rfl,p,cap,rfl,hc⟩ | ⟨b,cap,rfl,hn,hc,hb⟩
    ·rw [Nat.zero_mul,List.take_zero]
     exact .p _ _ (.sl 0 [] p cap (fun _=>undef) (Nat.zero_le _) hc (fun i h=>by simp at h) (fun i h=>by simp at h) (fun i h=>by simp at h))
    ·rcases hM.row _ _ _ _ ho with ⟨D5,_⟩ | ⟨b',arr,inf,Aj,q1,q2,q3,q4,q5,q6,q7,q8⟩
     ·rw [hb] at D5;cases D5
     ·rw [hb] at Aj;cases Aj
      have hle:r.2.2.length≤arr.size:=by rw [q3,q4];exact Nat.mul_le_mul_right _ q5
      have hlt:∀ i,i<((r.2.2.drop off).take (n*(r.2.2.length / r.2.1))).length→off+i<r.2.2.length:=fun i hi=>by simp at hi;omega
      refine .p _ _ (.sl n _ _ cap (fun j=>arr.getD (off+j) undef) hn hc (fun i hi=>⟨b,off,rfl,hO _ _ b ho rfl hb,bH q1 (by have:=hlt i hi;omega)⟩) (fun i hi => ?_) (fun i hi=>q8 _ (hlt i hi)))
      simp only [List.getElem_take,List.getElem_drop];exact (q7 _ (hlt i hi)).mono hG (fun _ _=>rfl)
  ·cases hv
 | .tup _,_,_,_,hv=>by simp [view] at hv
 | .mp _,_,_,_,hv=>by simp [view] at hv
 | .pa _ _,_,_,_,hv=>by simp [view] at hv
theorem jT:∀ {l:List AV} {us:Nat→Value} {ys:List AV},(∀ i (h:i<l.length),Rep C M w l[i] (us i))→lQ M l=some ys→ys.length=l.length∧∀ i (h:i<ys.length),Rep (C.bare G) [] w ys[i] (us i)
 | [],_,ys,_,hv=>by simp only [lQ] at hv;cases hv;exact ⟨rfl,fun i h=>by simp at h⟩
 | x::r,us,ys,h,hv=>by
  simp only [lQ] at hv
  split at hv
  ·rename_i y h1
   split at hv
   ·rename_i l h2
    cases hv;obtain ⟨q1,q2⟩:=jT (us:=fun i=>us (i+1)) (fun i hi=>h (i+1) (by simpa using hi)) h2
    refine ⟨by simp [q1],fun i hi => ?_⟩
    cases i with
    | zero=>exact sV (h 0 (by simp)) h1
    | succ i=>exact q2 i (by simpa using hi)
   ·cases hv
  ·cases hv
end
end
end
section
variable {P:Program} {T:TT} {E:Env} {C C':Cx} {M M1:Mem} {w w':World}

def Cx.after(C:Cx)(w w':World)(kb:Option Nat):Cx:={ ι:=C.ι,κ:=C.κ,F:=fun b=>C.F b∨(w.heap.size≤b∧b<w'.heap.size∧kb≠some b) }

theorem aJb(hM:aO P C M w){kb:Option Nat}(ho:w'.os=w.os)(ht:w'.tape=w.tape)(hu:w'.output=w.output)(hs:w.heap.size≤w'.heap.size)(hk:∀ b,b<w.heap.size→w'.heap[b]? = w.heap[b]?):Fr C M w (C.after w w' kb) M w'∧aO P (C.after w w' kb) M w':=by
 have hf:Fr C M w (C.after w w' kb) M w':=⟨ho,ht,hu,hs,fun b hb _=>hk b hb,fun _ x h=>⟨⟨x,h⟩,rfl,rfl⟩,fun _ _ _ _ _ cs h=>⟨cs,h⟩,fun _ o h o' h' hl=>by rw [h] at h';cases h';exact hl,
  fun i x _ h hl hb => .inr ⟨i,x,h,hl,hb⟩,fun _ h => .inl h,fun b h=>by rcases h with h | ⟨h,_⟩;exact .inl h;exact .inr (.inl h)⟩
 have hL:=hM.le hf;refine ⟨hf,fun i Cb n cs hm => ?_,fun i Cb cs hm => ?_,fun i es cl hm => ?_,hM.inj,fun i x b hm hl hb => ?_,fun b hb => ?_,fun i x b hm hl hb=>B5 (hM.lt i x b hm hl hb) hs⟩
 ·rcases hM.row _ _ _ _ hm with h4 | ⟨b,arr,inf,q0,q1,q2,q3,q4,q5,q6,q7,q8⟩
  ·exact .inl h4
  ·exact .inr ⟨b,arr,inf,q0,(hk b (hM.lt _ _ _ hm rfl q0)).trans q1,q2,q3,q4,q5,q6,fun j hj=>(q7 j hj).mono hL.F hL.fz,q8⟩
 ·obtain ⟨b,arr,q0,q1,q2,q3,q4⟩:=hM.box _ _ _ hm
  exact ⟨b,arr,q0,(hk b (hM.lt _ _ _ hm rfl q0)).trans q1,q2,fun j hj=>(q3 j hj).mono hL,q4⟩
 ·obtain ⟨b,arr,q0,q1,q2,q3⟩:=hM.mp _ _ _ hm
  refine ⟨b,arr,q0,(hk b (hM.lt _ _ _ hm rfl q0)).trans q1,q2,fun j hj => ?_⟩
  obtain ⟨en,r1,r2,r3,r4⟩:=q3 j hj;exact ⟨en,r1,r2,r3,r4.mono hL.F hL.fz⟩
 ·rintro (h | ⟨h,_⟩)
  ·exact hM.nF i x b hm hl hb h
  ·have:=hM.lt i x b hm hl hb
   omega
 ·rcases hb with h | ⟨_,h,_⟩
  ·exact B5 (hM.Fs b h) hs
  ·exact h

theorem bDb{C1:Cx}(hM:aO P C1 M w'){base b k ty n:Nat}{cs:List PV}(hf:yM M base)(hnF:¬ C1.F b)(hold:∀ (i:Nat) (x:AO) (j:Nat),M[i]? = some (some x)→x.live=true→C1.ι i=some j→j<b)(hb:b<w'.heap.size)
  (hrow:∃ arr i,w'.heap[b]? = some (.cells arr ty (0,0))∧P.info? ty=some i∧arr.size=k*i.size∧cs.length=n*i.size∧n≤k∧k≤maxLen∧(∀ j (h:j<cs.length),bW C1.F w' cs[j] (arr.getD j undef))∧∀ j,j<cs.length→(arr.getD j undef).oneCell'=true) :
  aO P (C1.grow base b k) (aT M base (some (.row ty n cs))) w'∧Le C1 (C1.grow base b k) M (aT M base (some (.row ty n cs))) w' w':=by
 have hne:∀ (i:Nat) (x:AO),M[i]? = some (some x)→i≠base:=fun i x h e=>hf x (e ▸ h)
 have hL:Le C1 (C1.grow base b k) M (aT M base (some (.row ty n cs))) w' w':=by
  refine ⟨fun i x h=>⟨x,(aN M base i _ x (fun e=>hne i x h e.symm)).2 h⟩,fun i x h ty n cs hm=>⟨cs,(aN M base i _ _ (fun e=>hne i x h e.symm)).1 hm⟩,fun i x h o' hm hl => ?_,fun _ h=>h,fun _ _=>rfl⟩
  have h4:=(aN M base i _ _ (fun e=>hne i x h e.symm)).1 hm
  rw [h] at h4;cases h4
  exact ⟨hl,by simp [Cx.grow,hne i x h],by simp [Cx.grow,hne i x h]⟩
 have C6:∀ (i:Nat) (x:AO),i≠base→(aT M base (some (.row ty n cs)))[i]? = some (some x)→M[i]? = some (some x):=fun i x h=>(aN M base i _ x (fun e=>h e.symm)).1
 have hnew:∀ (x:AO),(aT M base (some (.row ty n cs)))[base]? = some (some x)→x = .row ty n cs:=fun x h=>by rw [aS] at h;cases h;rfl
 have hι:∀ i,i≠base→(C1.grow base b k).ι i=C1.ι i:=fun i h=>by simp [Cx.grow,h]
 have hκ:∀ i,i≠base→(C1.grow base b k).κ i=C1.κ i:=fun i h=>by simp [Cx.grow,h]
 have hιs:(C1.grow base b k).ι base=some b:=by simp [Cx.grow]
 have hκs:(C1.grow base b k).κ base=k:=by simp [Cx.grow]
 refine ⟨⟨fun i Cb n' A9 hm => ?_,fun i Cb A9 hm => ?_,fun i es cl hm => ?_,fun i i' o1 o2 j hm hl B8 Cy Ce D4 => ?_,fun i x j hm hl hj => ?_,fun j hj=>hM.Fs j hj,fun i x j hm hl hj => ?_⟩,hL⟩
 ·by_cases e:i=base
  ·subst e
   cases hnew _ hm;obtain ⟨arr,inf,q0,q1,q2,q3,q4,q5,q6,q7⟩:=hrow;exact .inr ⟨b,arr,inf,hιs,q0,q1,by rw [hκs];exact q2,q3,by rw [hκs];exact q4,by rw [hκs];exact q5,q6,q7⟩
  ·rw [hι i e,hκ i e]
   rcases hM.row _ _ _ _ (C6 i _ e hm) with h4 | ⟨j,arr,inf,q0,q1,q2,q3,q4,q5,q6,q7,q8⟩
   ·exact .inl h4
   ·exact .inr ⟨j,arr,inf,q0,q1,q2,q3,q4,q5,q6,q7,q8⟩
 ·by_cases e:i=base
  ·subst e;cases hnew _ hm
  ·rw [hι i e]
   obtain ⟨j,arr,q0,q1,q2,q3,q4⟩:=hM.box _ _ _ (C6 i _ e hm);exact ⟨j,arr,q0,q1,q2,fun j hj=>(q3 j hj).mono hL,q4⟩
 ·by_cases e:i=base
  ·subst e;cases hnew _ hm
  ·rw [hι i e]
   obtain ⟨j,arr,q0,q1,q2,q3⟩:=hM.mp _ _ _ (C6 i _ e hm);refine ⟨j,arr,q0,q1,q2,fun j hj => ?_⟩
   obtain ⟨en,r1,r2,r3,r4⟩:=q3 j hj;exact ⟨en,r1,r2,r3,r4.mono hL.F hL.fz⟩
 ·by_cases e:i=base
  ·by_cases e':i'=base
   ·rw [e,e']
   ·subst e
    rw [hιs] at Ce;cases Ce
    rw [hι i' e'] at D4
    have:=hold i' _ _ (C6 i' _ e' B8) Cy D4;omega
  ·by_cases e':i'=base
   ·subst e'
    rw [hιs] at D4;cases D4
    rw [hι i e] at Ce
    have:=hold i _ _ (C6 i _ e hm) hl Ce;omega
   ·rw [hι i e] at Ce;rw [hι i' e'] at D4
    exact hM.inj _ _ _ _ _ (C6 i _ e hm) hl (C6 i' _ e' B8) Cy Ce D4
 ·by_cases e:i=base
  ·subst e;rw [hιs] at hj;cases hj;exact hnF
  ·rw [hι i e] at hj;exact hM.nF _ _ _ (C6 i _ e hm) hl hj
 ·by_cases e:i=base
  ·subst e;rw [hιs] at hj;cases hj;exact hb
  ·rw [hι i e] at hj;exact hM.lt _ _ _ (C6 i _ e hm) hl hj
end
section
variable {P:Program} {T:TT} {E:Env} {C C':Cx} {M M1:Mem} {w w':World}

def aSg:List AV→Option Nat
 | []=>none
 | .own id::_=>some id
 | _::r=>aSg r
def bCz:AV→Option Nat
 | .own id=>some id
 | .tup l=>aSg l
 | _=>none
def aUw(m:Mem)(base k:Nat)(x:AV):Option AV:=match x with
 | .own id=>match Nat.beq id k with
  | true=>some (.own base)
  | false=>view m (.own id)
 | x=>view m x
def aSh(m:Mem)(base k:Nat):List AV→Option (List AV)
 | []=>some []
 | x::r=>match aUw m base k x with
  | some y=>match aSh m base k r with
   | some l=>some (y::l)
   | none=>none
  | none=>none
def bDa(m:Mem)(base k:Nat):AV→Option AV
 | .tup l=>match aSh m base k l with
  | some ys=>some (.tup ys)
  | none=>none
 | x=>aUw m base k x
def aUx(m:Mem)(base:Nat)(r:AV):Option (AV × Upd):=match bCz r with
 | some k=>match eM m k with
  | some q=>match bDa (upds m [(k,.dead)]) base k r with
   | some y=>some (y,[(base,.row q.1 q.2.1 q.2.2)])
   | none=>none
  | none=>none
 | none=>match bDa m base m.length r with
  | some y=>some (y,[])
  | none=>none

def aUy:AV→Bool
 | .own _=>true
 | x=>rig x
def zG:List AV→Bool
 | []=>true
 | x::r=>match aUy x with
  | true=>zG r
  | false=>false
def aUz:AV→Bool
 | .tup l=>zG l
 | x=>aUy x
def aVa:Upd→Bool
 | []=>true
 | (_,.row _ _ cs)::r=>match aDw cs with
  | true=>aVa r
  | false=>false
 | _=>false
theorem aIy:∀ {l:List AV},zG l=true→∀ i (h:i<l.length),aUy l[i]=true
 | [],_,i,h=>by simp at h
 | x::r,hr,i,h=>by
  unfold zG at hr
  split at hr
  ·cases i with
   | zero=>assumption
   | succ i=>exact aIy hr i (by simpa using h)
  ·cases hr

theorem aIz{cs l:List AV}(h:iT cs = .tup l):False:=by
 unfold iT at h;split at h <;> cases h
theorem aJa{m:Mem}{x:AV}{l:List AV}(h:view m x=some (.tup l)):False:=by
 cases x with
 | agg cs =>
  simp only [view] at h
  split at h
  ·injection h with h;exact aIz h
  ·cases h
 | fn f a b =>
  simp only [view] at h
  split at h
  ·split at h <;> cases h
  ·cases h
 | ptr id off =>
  simp only [view] at h
  split at h
  ·cases h
  ·split at h <;> cases h
  ·cases h
 | own id=>simp only [view] at h;split at h <;> cases h
 | arr id off n=>simp only [view] at h;split at h <;> cases h
 | _=>simp [view] at h

theorem zH{C2:Cx}{M2 m:Mem}{Ck:Cx}{base k:Nat}{A:Prop}(hM:aO P Ck m w')
  (hA:A→(∀ b,Ck.F b→C2.F b)∧∀ (id:Nat) (o:AO) (b:Nat),m[id]? = some (some o)→o.live=true→Ck.ι id=some b→C2.F b)
  (hk:∀ u,Rep C' M1 w' (.own k) u→Rep C2 M2 w' (.own base) u) (hL:Le C' Ck M1 m w' w') {x y:AV} {u:Value} (h:Rep C' M1 w' x u) (hx:aUw m base k x=some y) (hr:A∨aUy y=true):Rep C2 M2 w' y u:=by
 have sv:∀ {x y:AV} {u:Value},Rep C' M1 w' x u→view m x=some y→(A∨aUy y=true)→Rep C2 M2 w' y u:=fun {x y u} h hv hr=>by
  rcases hr with hr | hr
  ·obtain ⟨h1,h2⟩:=hA hr
   have:=sV hM h1 h2 (h.mono hL) hv;have hle:Le (Ck.bare C2.F) C2 [] M2 w' w':=⟨fun _ _ h=>by simp at h,fun _ _ h=>by simp at h,fun _ _ h=>by simp at h,fun _ h=>h,fun _ _=>rfl⟩
   exact this.mono hle
  ·have:=sV (G:=fun b=>Ck.F b∨∃ (id:Nat) (o:AO),m[id]? = some (some o)∧o.live=true∧Ck.ι id=some b) hM (fun _ h => .inl h) (fun id o b h1 h2 h3 => .inr ⟨id,o,h1,h2,h3⟩) (h.mono hL) hv
   cases y with
   | own id=>cases this with | own _ _ _ ha _=>obtain ⟨o,ho⟩:=ha;simp at ho
   | _=>exact this.rig hr
 unfold aUw at hx
 split at hx
 ·rename_i id
  split at hx
  ·rename_i hb
   cases hx;have:=Nat.eq_of_beq_eq_true hb;subst this;exact hk u h
  ·exact sv h hx hr
 ·exact sv h hx hr

theorem xH{C2:Cx}{M2 m:Mem}{Ck:Cx}{base k:Nat}{A:Prop}(hM:aO P Ck m w')
  (hA:A→(∀ b,Ck.F b→C2.F b)∧∀ (id:Nat) (o:AO) (b:Nat),m[id]? = some (some o)→o.live=true→Ck.ι id=some b→C2.F b)
  (hk:∀ u,Rep C' M1 w' (.own k) u→Rep C2 M2 w' (.own base) u) (hL:Le C' Ck M1 m w' w'):∀ {l ys:List AV} {us:Nat→Value},(∀ i (h:i<l.length),Rep C' M1 w' l[i] (us i))→aSh m base k l=some ys→(A∨zG ys=true) →
   ys.length=l.length∧∀ i (h:i<ys.length),Rep C2 M2 w' ys[i] (us i)
 | [],ys,us,_,hx,_=>by cases hx;exact ⟨rfl,fun i h=>by simp at h⟩
 | x::r,ys,us,h,hx,hr=>by
  unfold aSh at hx
  split at hx
  ·rename_i y h1
   split at hx
   ·rename_i l h2
    cases hx;have Fo:A∨aUy y=true:=hr.imp id fun hr=>aIy (l:=y::l) hr 0 (by simp)
    have D8:A∨zG l=true:=hr.imp id fun hr=>by
     unfold zG at hr
     split at hr
     ·exact hr
     ·cases hr
    obtain ⟨q1,q2⟩:=xH hM hA hk hL (us:=fun i=>us (i+1)) (fun i hi=>h (i+1) (by simpa using hi)) h2 D8
    refine ⟨by simp [q1],fun i hi => ?_⟩
    cases i with
    | zero=>exact zH hM hA hk hL (h 0 (by simp)) h1 Fo
    | succ i=>exact q2 i (by simpa using hi)
   ·cases hx
  ·cases hx

theorem sU{C2:Cx}{M2 m:Mem}{Ck:Cx}{base k:Nat}{A:Prop}(hM:aO P Ck m w')
  (hA:A→(∀ b,Ck.F b→C2.F b)∧∀ (id:Nat) (o:AO) (b:Nat),m[id]? = some (some o)→o.live=true→Ck.ι id=some b→C2.F b)
  (hk:∀ u,Rep C' M1 w' (.own k) u→Rep C2 M2 w' (.own base) u) (hL:Le C' Ck M1 m w' w') {x y:AV} {u:Value} (h:Rep C' M1 w' x u) (hx:bDa m base k x=some y) (hr:A∨aUz y=true):Rep C2 M2 w' y u:=by
 unfold bDa at hx
 split at hx
 ·rename_i l
  split at hx
  ·rename_i ys hy
   cases hx;cases h with
   | tup _ vs h1 h2 =>
    obtain ⟨q1,q2⟩:=xH hM hA hk hL (us:=fun i=>vs.getD i undef) h2 hy hr
    exact .tup _ _ (by omega) q2
  ·cases hx
 ·rename_i hn
  refine zH hM hA hk hL h hx (hr.imp id fun hr => ?_)
  unfold aUz at hr
  split at hr
  ·exfalso
   unfold aUw at hx
   split at hx
   ·split at hx
    ·cases hx
    ·exact aJa hx
   ·exact aJa hx
  ·exact hr

theorem vW{f:Nat}{args Am:List AV}{r y:AV}{L:Upd}{base:Nat}(hm:iL args=true∧Am=args∨lQ M args=some Am∧aUz y=true∧aVa L=true)(hb:eG M base=true)
  (ho:aUx M1 base r=some (y,L)) (h:FMM P f Am [] r M1):FM P f args M y L:=by
 intro C w us hus hM n;obtain ⟨G,hG,hGs,hA,On⟩:∃ G:Nat→Prop,(∀ b,C.F b→G b)∧(∀ b,G b→b<w.heap.size)∧((∀ b,G b→C.F b)∨aUz y=true∧aVa L=true)∧cG (C.bare G) [] w Am us:=by
  rcases hm with ⟨hn,rfl⟩ | ⟨hv,Fo,D8⟩
  ·refine ⟨C.F,fun _ h=>h,hM.Fs,.inl fun _ h=>h,?_⟩
   have:∀ {l:List AV} {us:List Value},iL l=true→cG C M w l us→cG (C.bare C.F) [] w l us:=by
    intro l
    induction l with
    | nil=>intro us _ h;cases h;exact .nil
    | cons x l ih =>
     intro us hn h;cases h with
     | cons _ u _ k hx hr =>
      have h0:=mY hn 0 (by simp)
      unfold iL at hn
      split at hn
      ·exact .cons _ _ _ _ (hx.noRef h0 (fun _ h=>h) (fun _ _=>rfl)) (ih hn hr)
      ·cases hn
   exact this hn hus
  ·refine ⟨fun b=>C.F b∨∃ (id:Nat) (o:AO),M[id]? = some (some o)∧o.live=true∧C.ι id=some b,fun _ h => .inl h,fun b h => ?_,.inr ⟨Fo,D8⟩,?_⟩
   ·rcases h with h | ⟨id,o,h1,h2,h3⟩
    ·exact hM.Fs b h
    ·exact hM.lt id o b h1 h2 h3
   ·obtain ⟨q1,q2⟩:=jT (G:=fun b=>C.F b∨∃ (id:Nat) (o:AO),M[id]? = some (some o)∧o.live=true∧C.ι id=some b) hM (fun _ h => .inl h) (fun id o b h1 h2 h3 => .inr ⟨id,o,h1,h2,h3⟩) (us:=fun i=>us.getD i undef) (fun i hi=>hus.at i hi) hv
    have:=cG.ofArr (l:=Am) (us:=us.toArray) (by simp [hus.len,q1]) (fun i hi=>by rw [bN];exact q2 i hi)
    exact this
 have B1:aO P (C.bare G) [] w:=⟨fun _ _ _ _ h=>by simp at h,fun _ _ _ h=>by simp at h,fun _ _ _ h=>by simp at h,fun _ _ _ _ _ h=>by simp at h,fun _ _ _ h=>by simp at h,hGs,fun _ _ _ h=>by simp at h⟩
 refine (h (C.bare G) w us On B1 n).mono ?_;rintro e w' ⟨u,rfl,C',hF,Bd,hr⟩;refine ⟨u,rfl,?_⟩;have hkeep:∀ b,b<w.heap.size→w'.heap[b]? = w.heap[b]? := fun b hb=>hF.keep b hb (fun id o h=>by simp at h)
 have hnew:∀ (id:Nat) (o:AO) (b:Nat),M1[id]? = some (some o)→o.live=true→C'.ι id=some b→w.heap.size≤b:=fun id o b h1 h2 h3=>by
  rcases hF.new id o b h1 h2 h3 with h4 | ⟨_,_,h4,_⟩
  ·exact h4
  ·simp at h4
 have E0:∀ b,C'.F b→G b∨w.heap.size≤b:=fun b hb=>by
  rcases hF.F2 b hb with h4 | h4 | ⟨_,_,h4,_⟩
  ·exact .inl h4
  ·exact .inr h4
  ·simp at h4
 have hfree:=cA hb;unfold aUx at ho
 split at ho
 ·rename_i k hk
  split at ho
  ·rename_i q hq
   split at ho
   ·rename_i y' hy
    cases ho;have hok:=cN hq;have hmk:=lC Bd (id:=k) false hok rfl;have hlk:=Bd.le (cE (C:=C') (w:=w') (id:=k) false hok rfl);obtain ⟨f1,m1⟩:=aJb (C:=C) (M:=M) (w:=w) (w':=w') (kb:=C'.ι k) hM hF.os hF.tape hF.out hF.size hkeep;have hAA:(∀ b,G b→C.F b)→(∀ b,(C'.close k false).F b→(C.after w w' (C'.ι k)).F b)∧∀ (id:Nat) (o:AO) (b:Nat),(upds M1 [(k,.dead)])[id]? = some (some o)→o.live=true→(C'.close k false).ι id=some b→(C.after w w' (C'.ι k)).F b:=by
     intro hGC;refine ⟨fun b hb => ?_,fun id o b h1 h2 h3 => ?_⟩
     ·have Aj:C'.F b:=by rcases hb with hb | ⟨hb,_⟩;exact hb;cases hb
      rcases E0 b Aj with h4 | h4
      ·exact .inl (hGC b h4)
      ·exact .inr ⟨h4,Bd.Fs b Aj,fun e=>Bd.nF _ _ _ hok rfl e Aj⟩
     ·simp only [upds] at h1
      have hne:k≠id:=fun e=>by subst e;rw [aS] at h1;cases h1;cases h2
      have G4:=(aN M1 k id _ _ hne).1 h1;exact .inr ⟨hnew id o b G4 h2 h3,Bd.lt id o b G4 h2 h3,fun e=>hne (Bd.inj _ _ _ _ _ hok rfl G4 h2 e h3)⟩
    cases hkb:C'.ι k with
    | none =>
     rw [hkb] at hAA f1 m1
     obtain ⟨hz,hcs⟩:q.2.1=0∧q.2.2=[]:=by
      rcases Bd.row _ _ _ _ hok with ⟨_,hz,hcs⟩ | ⟨b,_,_,hb,_⟩
      ·exact ⟨hz,hcs⟩
      ·rw [hkb] at hb;cases hb
     rw [hz,hcs];have m2:=uQ (ty:=q.1) m1 hfree;have f2:=uP (ty:=q.1) (C:=C.after w w' none) (w:=w') hfree;have hle:=m1.le f2;refine ⟨_,f1.trans f2,m2,?_⟩;refine sU (C2:=(C.after w w' none).nil base) (M2:=upds M [(base,.row q.1 0 [])]) (A:=∀ b,G b→C.F b) hmk (fun h=>⟨fun b hb=>(hAA h).1 b hb,fun id o b h1 h2 h3=>(hAA h).2 id o b h1 h2 h3⟩) (fun v hv => ?_) hlk hr hy (hA.imp id (·.1))
     cases hv with
     | own _ _ h0 ha hrow =>
      rcases hrow _ _ _ hok with ⟨rfl,_,_⟩ | ⟨b,_,hb⟩
      ·exact .own base _ rfl ⟨_,aS ..⟩ (fun ty n cs h=>by simp only [upds] at h;rw [aS] at h;cases h;exact .inl ⟨rfl,by simp [Cx.nil],rfl⟩)
      ·rw [hkb] at hb;cases hb
    | some b =>
     rw [hkb] at hAA f1 m1
     rcases Bd.row _ _ _ _ hok with ⟨hn,_⟩ | ⟨b',arr,inf,Aj,q1,q2,q3,q4,q5,q6,q7,q8⟩
     ·rw [hkb] at hn;cases hn
     rw [hkb] at Aj;cases Aj
     have hbn:=hnew k _ b hok rfl hkb;have hbl:=Bd.lt k _ b hok rfl hkb;have hcell:∀ j (h:j<q.2.2.length),bW (C.after w w' (some b)).F w' q.2.2[j] (arr.getD j undef):=fun j hj=>by
      rcases hA with hGC | ⟨_,D8⟩
      ·exact (q7 j hj).mono (fun b hb=>(hAA hGC).1 b (.inl hb)) (fun _ _=>rfl)
      ·simp only [aVa] at D8
       split at D8
       ·rename_i hcs
        exact (q7 j hj).rig (zI hcs j hj)
       ·cases D8
     obtain ⟨m2,Bu⟩:=bDb (base:=base) (b:=b) (k:=C'.κ k) (ty:=q.1) (n:=q.2.1) (cs:=q.2.2) m1 hfree (fun hF=>by
      rcases hF with hF | ⟨_,_,hF⟩
      ·have:=hM.Fs b hF;omega
      ·exact hF rfl) (fun i x j h1 h2 h3=>by have:=hM.lt i x j h1 h2 h3;omega) hbl ⟨arr,inf,q1,q2,q3,q4,q5,q6,hcell,q8⟩
     refine ⟨_,?_,m2,?_⟩
     ·have hne:∀ (i:Nat) (x:AO),M[i]? = some (some x)→i≠base:=fun i x h e=>hfree x (e ▸ h)
      refine ⟨f1.os,f1.tape,f1.out,f1.size,f1.keep,fun i x h=>⟨Bu.ids i x h,by simp [Cx.grow,Cx.after,hne i x h],by simp [Cx.grow,Cx.after,hne i x h]⟩,Bu.row,fun i x h o' h1 h2=>(Bu.liv i x h o' h1 h2).1,fun i x j h1 h2 h3 => ?_,f1.F1,f1.F2⟩
      by_cases e:i=base
      ·subst e
       simp only [Cx.grow,if_true] at h3
       cases h3;exact .inl hbn
      ·simp only [Cx.grow,e,if_false] at h3
       exact f1.new i x j ((aN M base i _ _ (fun e'=>e e'.symm)).1 h1) h2 h3
     ·refine sU (C2:=(C.after w w' (some b)).grow base b (C'.κ k)) (M2:=upds M [(base,.row q.1 q.2.1 q.2.2)]) (A:=∀ b,G b→C.F b) hmk (fun h=>⟨fun b hb=>(hAA h).1 b hb,fun id o b h1 h2 h3=>(hAA h).2 id o b h1 h2 h3⟩) (fun v hv => ?_) hlk hr hy (hA.imp id (·.1))
      cases hv with
      | own _ _ h0 ha hrow =>
       rcases hrow _ _ _ hok with ⟨_,hn,_⟩ | ⟨b',rfl,hb⟩
       ·rw [hkb] at hn;cases hn
       ·rw [hkb] at hb;cases hb
        exact .own base _ rfl ⟨_,aS ..⟩ (fun ty n cs h=>by simp only [upds] at h;rw [aS] at h;cases h;exact .inr ⟨b,by simp [Cx.grow],by simp [Cx.grow]⟩)
   ·cases ho
  ·cases ho
 ·rename_i hk
  split at ho
  ·rename_i y' hy
   cases ho;obtain ⟨f1,m1⟩:=aJb (C:=C) (M:=M) (w:=w) (w':=w') (kb:=none) hM hF.os hF.tape hF.out hF.size hkeep;refine ⟨_,f1,m1,?_⟩;refine sU (C2:=C.after w w' none) (M2:=upds M []) (A:=∀ b,G b→C.F b) Bd (fun hGC=>⟨fun b hb => ?_,fun id o b h1 h2 h3 => .inr ⟨hnew id o b h1 h2 h3,Bd.lt id o b h1 h2 h3,nofun⟩⟩) (fun v hv => ?_) ⟨fun i o h=>⟨o,h⟩,fun _ _ _ _ _ cs h=>⟨cs,h⟩,fun _ o h o' h' hl=>by rw [h] at h';cases h';exact ⟨hl,rfl,rfl⟩,fun _ h=>h,fun _ _=>rfl⟩ hr hy (hA.imp id (·.1))
   ·rcases E0 b hb with h4 | h4
    ·exact .inl (hGC b h4)
    ·exact .inr ⟨h4,Bd.Fs b hb,nofun⟩
   ·cases hv with
    | own _ _ h0 ha hrow =>
     obtain ⟨o,ho⟩:=ha;rw [List.getElem?_eq_none (cP _)] at ho
     cases ho
  ·cases ho
end
section
variable {P:Program} {T:TT} {E:Env} {C C':Cx} {M M1 M2:Mem} {w w':World}

def s0:AS:={ auto:=true,o:=[],obs:=[] }

end
section
variable {P:Program} {T:TT} {E:Env} {C C0:Cx} {M M0:Mem} {w w0:World}

def aF(P:Program)(k:Nat)(b:Code)(st:St)(e:Ex)(Ag:St):Prop:=∀ (C0:Cx) (M0:Mem) (w0:World) (a:Act) (w:World),M0.length≤k→Sim P C0 M0 w0 st a w→∀ (ro:Option Nat),kA ro b→∀ (n:Nat),LoopIn (Fen ro) n P b (fun e' a' w'=>e'=e.toExit∧Sim P C0 M0 w0 Ag a' w') a w

section
variable {k:Nat} {b:Code} {st st1 Ag:St} {e:Ex}
theorem aF.step(h:aC P k b st .normal st1)(hr:aF P k b st1 e Ag):aF P k b st e Ag:=fun C0 M0 w0 a w hk hs ro hro n=>LoopIn.step (wpIn_mono (h C0 M0 w0 a w hk hs ro hro n) fun e' a' w' hq=>by
 obtain ⟨rfl,Bt⟩:=hq;exact hr C0 M0 w0 a' w' hk Bt ro hro n)
theorem aF.exit(h:aC P k b st e Ag)(he:e ≠ .normal):aF P k b st e Ag:=fun C0 M0 w0 a w hk hs ro hro n=>LoopIn.step (wpIn_mono (h C0 M0 w0 a w hk hs ro hro n) fun e' a' w' hq=>by
 obtain ⟨rfl,Bt⟩:=hq;cases e with
 | normal=>exact absurd rfl he
 | ret=>exact ⟨rfl,Bt⟩
 | exit id=>exact ⟨rfl,Bt⟩)
theorem aF.code(h:aF P k b st e Ag):aC P k (.loop b) st e Ag:=fun C0 M0 w0 a w hk hs ro hro n=>LoopIn.wp (h C0 M0 w0 a w hk hs ro hro.loop n)
theorem aF.range{α β:Type}(S:Nat→β→St)(R:β→St)(f:β→α→β)(Inv:Nat→β→Prop)(he:e ≠ .normal)(l:List α){a0:β}(h0:Inv 0 a0)
  (hs:∀ (i:Nat) (x:α) (acc:β),l[i]? = some x→Inv i acc→Inv (i+1) (f acc x)∧aC P k b (S i acc) .normal (S (i+1) (f acc x)))
  (hx:∀ acc,Inv l.length acc→aC P k b (S l.length acc) e (R acc)):aF P k b (S 0 a0) e (R (l.foldl f a0)):=by
 have key:∀ (r:List α) (i:Nat) (acc:β),l.drop i=r→i≤l.length→Inv i acc→aF P k b (S i acc) e (R (r.foldl f acc)):=by
  intro r
  induction r with
  | nil =>
   intro i acc hd hi hI;have:i=l.length:=by have:=congrArg List.length hd;simp at this;omega
   subst this;exact .exit (hx _ hI) he
  | cons x r ih =>
   intro i acc hd hi hI;have hl:l[i]? = some x:=by
    have:=congrArg (·[0]?) hd
    simpa using this
   obtain ⟨h1,h2⟩:=hs i x acc hl hI;have hlt:i<l.length:=(A2.1 hl).1;refine .step h2 (ih (i+1) _ ?_ (by omega) h1)
   have:=congrArg List.tail hd;simpa [List.tail_drop] using this
 exact key l 0 a0 (by simp) (Nat.zero_le _) h0

end

def FV(P:Program)(f:Nat)(args:List AV)(base:Nat)(y:AV)(L:Upd):Prop:=∃ r M1,FMM P f args [] r M1∧aUx M1 base r=some (y,L)

theorem FV.fc{f base:Nat}{args:List AV}{y:AV}{L:Upd}{bs:List (Nat × AO)}(h:FV P f args base y L)(hn:iL args=true):FC P f args bs base y L:=fun M _ hb _=>by
 obtain ⟨r,M1,h1,h2⟩:=h;exact vW (.inl ⟨hn,rfl⟩) hb h2 h1

def aMm(m M:Mem):Prop:=∀ (id:Nat) (o:AO),bG m id=some o→bG M id=some o
section
variable {m:Mem}
theorem aFz(hs:aMm m M){id:Nat}{r:Nat × Nat × List PV}(h:eM m id=some r):eM M id=some r:=by
 have:=aZ.2 (cN h);unfold eM;rw [hs _ _ this]
theorem aUv(hs:aMm m M){x:AV}{y:PV}(h:Du m x=some y):Du M x=some y:=by
 unfold Du at h ⊢
 split at h
 ·exact h
 ·exact h
 ·split at h
  ·rename_i hr
   rw [aFz hs hr];exact h
  ·cases h
 ·cases h
theorem aDv(hs:aMm m M):∀ {l:List AV} {ys:List PV},aAe m l=some ys→aAe M l=some ys
 | [],_,h=>h
 | x::r,ys,h=>by
  unfold aAe at h ⊢
  split at h
  ·rename_i h1
   split at h
   ·rename_i h2
    rw [aUv hs h1,aDv hs h2];exact h
   ·cases h
  ·cases h
mutual
theorem bCy(hs:aMm m M):∀ {x y:AV},view m x=some y→view M x=some y
 | .p x,y,h=>by simp only [view] at h ⊢;exact h
 | .kb b,y,h=>by simp only [view] at h ⊢;exact h
 | .any,y,h=>by simp only [view] at h ⊢;exact h
 | .yld l,y,h=>by simp only [view] at h ⊢;exact h
 | .rp cs o,y,h=>by simp only [view] at h ⊢;exact h
 | .own id,y,h=>by
  simp only [view] at h ⊢
  split at h
  ·rename_i hr
   rw [aFz hs hr];exact h
  ·cases h
 | .arr id off n,y,h=>by
  simp only [view] at h ⊢
  split at h
  ·rename_i hr
   rw [aFz hs hr];exact h
  ·cases h
 | .ptr id off,y,h=>by
  simp only [view] at h ⊢
  split at h
  ·rename_i hr
   rw [hs _ _ hr];exact h
  ·rename_i hr
   rw [hs _ _ hr]
   split at h
   ·rename_i hc
    simp only [aDv hs hc];exact h
   ·cases h
  ·cases h
 | .agg l,y,h=>by
  simp only [view] at h ⊢
  split at h
  ·rename_i hr
   rw [mX hs hr];exact h
  ·cases h
 | .fn f a b,y,h=>by
  simp only [view] at h ⊢
  split at h
  ·rename_i ha
   split at h
   ·rename_i hb
    rw [mX hs ha,mX hs hb];exact h
   ·cases h
  ·cases h
 | .tup l,y,h=>by simp [view] at h
 | .mp i,y,h=>by simp [view] at h
theorem mX(hs:aMm m M):∀ {l ys:List AV},lQ m l=some ys→lQ M l=some ys
 | [],_,h=>by simp only [lQ] at h ⊢;exact h
 | x::r,ys,h=>by
  simp only [lQ] at h ⊢
  split at h
  ·rename_i h1
   split at h
   ·rename_i h2
    rw [bCy hs h1,mX hs h2];exact h
   ·cases h
  ·cases h
end
end
theorem pC:∀ (bs:Upd) (m:Mem) (id:Nat) (o:AO),bG (upds m bs) id=some o→(id,o)∈bs∨bG m id=some o
 | [],_,_,_,h => .inr h
 | (i,x)::r,m,id,o,h=>by
  rcases pC r _ id o h with h1 | h1
  ·exact .inl (B7 _ h1)
  ·rw [cD] at h1
   split at h1
   ·rename_i e
    subst e;cases h1;exact .inl (jI ..)
   ·exact .inr h1
theorem FV.view{f base:Nat}{args Am:List AV}{y:AV}{L:Upd}{bs:List (Nat × AO)}(h:FV P f Am base y L)(hv:lQ (upds [] bs) args=some Am)(h1:aUz y=true)(h2:aVa L=true):FC P f args bs base y L:=fun M hb hf _=>by
 obtain ⟨r,M1,h3,h4⟩:=h;refine vW (.inr ⟨mX (fun id o ho => ?_) hv,h1,h2⟩) hf h4 h3
 rcases pC bs [] id o ho with h5 | h5
 ·exact hb _ h5
 ·simp [bG] at h5
end
section
noncomputable abbrev Tp:=Tryz.prog

inductive Tr (α:Type) where
 | nil
 | node (v:Option α) (l r:Tr α)
def Tr.get{α:Type}:Tr α→Nat→Option α
 | .nil,_=>none
 | .node v l r,k=>match Nat.beq k 0 with
  | true=>v
  | false=>match Nat.beq (Nat.mod k 2) 1 with
   | true=>l.get (Nat.div k 2)
   | false=>r.get (Nat.sub (Nat.div k 2) 1)
def Tr.all{α:Type}(f:Nat→Nat):Tr α→List (Nat × α)
 | .nil=>[]
 | .node v l r=>(match v with | some x=>[(f 0,x)] | none=>[])++l.all (fun k=>f (2*k+1))++r.all (fun k=>f (2*k+2))
theorem Tr.get_all{α:Type}:∀ (t:Tr α) (f:Nat→Nat) (k:Nat) (x:α),t.get k=some x→(f k,x)∈t.all f
 | .nil,_,_,_,h=>by cases h
 | .node v l r,f,k,x,h=>by
  unfold Tr.get at h
  unfold Tr.all
  split at h
  ·rename_i hb
   have hk:=Nat.eq_of_beq_eq_true hb;subst hk;subst h;exact mD _ (mD _ (jI ..))
  ·rename_i hb
   have hk:=Nat.ne_of_beq_eq_false hb
   split at h
   ·rename_i h1
    have h1:k % 2=1:=Nat.eq_of_beq_eq_true h1;have:=Tr.get_all l (fun k=>f (2*k+1)) _ x h
    refine mD _ (aAz _ ?_);have e:2*(k / 2)+1=k:=by omega
    have e':2*Nat.div k 2+1=k:=e;simp only [e'] at this
    exact this
   ·rename_i h1
    have h1:k % 2≠1:=Nat.ne_of_beq_eq_false h1;have:=Tr.get_all r (fun k=>f (2*k+2)) _ x h
    refine aAz _ ?_;have e:2*(k / 2-1)+2=k:=by omega
    have e':2*Nat.sub (Nat.div k 2) 1+2=k:=e;simp only [e'] at this
    exact this

abbrev tL(v:Option TI):Tr TI := .node v .nil .nil
abbrev D7:Option TI:=some ⟨.func,1,8,[.nilFunc],true⟩
abbrev Kv:Option TI:=some ⟨.int .i64,1,8,[.int .i64 0],true⟩
abbrev Pd:Option TI:=some ⟨.int .u64,1,8,[.int .u64 0],true⟩
abbrev Ri:Option TI:=some ⟨.struct [(0,3,true),(1,3,true)],2,16,[.int .i64 0,.int .i64 0],true⟩
def tTr:Tr TI := .node none (.node D7 (.node Kv (.node none (.node none (.node (some ⟨.slice 3,1,24,[.slice none 0 0],true⟩) (tL (some ⟨.struct [(0,3,true),(1,3,true),(2,3,true)],3,24,[.int .i64 0,.int .i64 0,.int .i64 0],true⟩)) .nil) (.node none .nil (tL D7))) (.node (some ⟨.slice 80,1,24,[.slice none 0 0],true⟩) (.node none (.node none (.node none (tL (some ⟨.struct [(0,260,true),(2,3,true),(3,3,true),(4,261,true)],5,40,[.int .i64 0,.int .i64 0,.int .i64 0,.int .i64 0,.nilFunc],true⟩)) .nil) .nil) (.node none (tL (some ⟨.map 3 24,1,8,[.map none],true⟩)) .nil)) (.node none (.node none (.node none (tL D7) .nil) (tL (some ⟨.slice 263,1,24,[.slice none 0 0],true⟩))) (.node (some ⟨.struct [(0,115,true),(1,116,true),(2,115,true),(3,117,true),(4,116,true)],5,40,.nilFunc::List.replicate 4 (.nilFunc),true⟩) (.node (some ⟨.map 3 4,1,8,[.map none],true⟩) (tL (some ⟨.ptr 3,1,8,[.pointer none],true⟩)) .nil) .nil)))) (.node none (.node none (.node none .nil (.node none .nil (tL D7))) (.node none (.node none .nil (tL (some ⟨.array 9 3,9,72,.int .i64 0::List.replicate 8 (.int .i64 0),true⟩))) (.node D7 (.node none (tL Pd) .nil) (tL (some ⟨.array 5 242,5,40,.nilFunc::List.replicate 4 (.nilFunc),true⟩))))) (.node none (.node none (tL (some ⟨.slice 150,1,24,[.slice none 0 0],true⟩)) (.node none (tL D7) .nil)) .nil))) (.node (some ⟨.int .u8,1,1,[.int .u8 0],true⟩) (.node (some ⟨.str,1,16,[.string { data := #[] }],true⟩) (.node none (.node none .nil (.node none .nil (tL D7))) .nil) (.node none (.node none .nil (.node none (tL (some ⟨.struct [(0,26,true),(3,166,true),(4,167,true)],5,72,[.int .i64 0,.slice none 0 0,.slice none 0 0,.map none,.map none],true⟩)) .nil)) (.node none .nil (.node none (tL D7) .nil)))) (.node none (.node none (.node none (.node none (.node none (tL D7) .nil) .nil) (.node none .nil (tL (some ⟨.array 2 3,2,16,[.int .i64 0,.int .i64 0],true⟩)))) (.node none .nil (tL D7))) (.node none (.node none (.node none (.node none (tL D7) .nil) (tL D7)) .nil) (.node none .nil (.node none (tL D7) .nil)))))) (.node Kv (.node (some ⟨.bool,1,1,[.bool false],true⟩) (.node none (.node none (.node (some ⟨.slice 31,1,24,[.slice none 0 0],true⟩) .nil (.node (some ⟨.struct [(0,22,true),(1,3,true),(2,94,true)],3,40,[.slice none 0 0,.int .i64 0,.int .u32 0],true⟩) (.node none (tL Pd) .nil) .nil)) (.node none (tL Ri) .nil)) (.node (some ⟨.slice 84,1,24,[.slice none 0 0],true⟩) (.node (some ⟨.slice 63,1,24,[.slice none 0 0],true⟩) (.node none (.node none (tL D7) .nil) .nil) (.node none .nil (tL (some ⟨.struct [(0,230,true),(1,229,true)],3,40,[.slice none 0 0,.int .i64 0,.int .i64 0],true⟩)))) (.node none (.node none (.node none (tL Kv) .nil) .nil) (.node none (tL D7) .nil)))) (.node none (.node none (.node Kv (.node none (.node none (tL (some ⟨.struct [(0,258,true),(1,3,true)],2,16,[.int .i64 0,.int .i64 0],true⟩)) .nil) .nil) (.node none .nil (tL D7))) (.node none (.node (some ⟨.struct [(0,3,true),(1,82,true),(2,3,true),(3,3,true),(4,3,true),(5,3,true)],6,48,.int .i64 0::List.replicate 5 (.int .i64 0),true⟩) (tL Ri) (tL (some ⟨.array 9 211,81,648,.int .i64 0::List.replicate 80 (.int .i64 0),true⟩))) (tL D7))) (.node (some ⟨.ptr 96,1,8,[.pointer none],true⟩) (.node D7 (.node none .nil (tL D7)) .nil) .nil))) (.node none (.node none (.node none (.node none (.node none (.node none (tL Kv) .nil) (.node none (tL (some ⟨.ptr 307,1,8,[.pointer none],true⟩)) .nil)) .nil) (.node none (tL Kv) (.node none .nil (tL (some ⟨.struct [(0,30,true)],1,8,[.nilFunc],true⟩))))) (.node (some ⟨.struct [(0,3,true),(1,23,true),(2,24,true)],3,56,[.int .i64 0,.slice none 0 0,.slice none 0 0],true⟩) (.node none (.node (some ⟨.slice 75,1,24,[.slice none 0 0],true⟩) (.node none (tL Pd) .nil) .nil) (.node (some ⟨.ptr 169,1,8,[.pointer none],true⟩) (tL D7) (tL (some ⟨.struct [(0,3,true),(1,4,true),(2,31,true)],3,40,[.int .i64 0,.bool false,.slice none 0 0],true⟩)))) .nil)) (.node none (.node (some ⟨.slice 5,1,24,[.slice none 0 0],true⟩) (.node none .nil (.node none (tL (some ⟨.map 3 84,1,8,[.map none],true⟩)) (tL (some ⟨.slice 234,1,24,[.slice none 0 0],true⟩)))) (.node none (.node none (tL (some ⟨.struct [(0,3,true),(1,3,true),(2,148,true)],4,32,[.int .i64 0,.int .i64 0,.int .i64 0,.int .i64 0],true⟩)) .nil) (.node none (tL D7) .nil))) (.node D7 (.node none .nil (.node none (tL (some ⟨.slice 232,1,24,[.slice none 0 0],true⟩)) .nil)) (.node none (tL (some ⟨.int .u32,1,4,[.int .u32 0],true⟩)) .nil)))))
def tT:TT:=tTr.get

set_option maxRecDepth 100000 in
theorem bPi:(tTr.all id).map (fun p=>bU Tryz.prog p.1)=(tTr.all id).map fun p=>some p.2:=by kernel_rfl
theorem aEz:∀ t i,tT t=some i→bU Tryz.prog t=some i:=fun t i h=>by
 have h1:=Tr.get_all tTr id t i h;obtain ⟨j,hj,hx⟩:=List.getElem_of_mem h1;have h2:=congrArg (fun l=>l[j]?) bPi
 simp only [B6,Ap hj,hx,Option.map_some,id,Option.some.injEq] at h2
 exact h2

def okF(P:Program)(f:Nat):Bool:=match P.funcs[f]? with
 | some fn => !(fn.name == "runtime.NumGoroutine") && fn.body.isSome
 | none=>false
theorem bJc{P:Program}{f:Nat}(h:okF P f=true)(args:Array Value)(w:World):(callFunc f args).run P w = .ok (.enter f args) w:=by
 unfold okF at h
 split at h
 ·rename_i fn hf
  simp only [Bg,Bool.not_eq_true'] at h
  have hn : ¬ fn.name = "runtime.NumGoroutine" := by simpa using h.1
  have hb:¬ fn.body=none:=fun e=>by rw [e] at h;cases h.2
  unfold callFunc;simp [hf,hn,hb]
 ·cases h
def ok(f:Nat):Bool:=match Nat.ble 2 f with
 | true=>Nat.ble f 294
 | false=>false
set_option maxRecDepth 100000 in
theorem bPj:((List.range 295).drop 2).all (okF Tryz.prog)=true:=by kernel_rfl
theorem bPk:∀ f,ok f=true→∀ args w,(callFunc f args).run Tryz.prog w = .ok (.enter f args) w:=fun f h=>by
 unfold ok at h
 split at h
 ·rename_i h2
  have h2:=Nat.le_of_ble_eq_true h2;have h3:=Nat.le_of_ble_eq_true h;have:=bPj;rw [fD] at this
  refine bJc (this f ?_);rw [List.mem_iff_getElem];exact ⟨f-2,by simp;omega,by simp;omega⟩
 ·cases h
theorem mixed:Tryz.prog.follows .mixedOrders=true:=by kernel_rfl
end
section
variable {P:Program} {T:TT} {E:Env} {C C0:Cx} {M M0 M1:Mem} {w w0:World}

def bkI(ids:List Nat)(base j:Nat):Option Nat:=match ids[j]? with
 | some i=>some i
 | none=>match Nat.beq j ids.length with
  | true=>some base
  | false=>none
def mF(ids:List Nat)(base:Nat):List Nat→Mem→Option Upd
 | i::r,some o::m=>match mpO (bkI ids base) o with
  | some o'=>(mF ids base r m).map ((i,o') :: ·)
  | none=>none
 | [],[]=>some []
 | [],[some o]=>match mpO (bkI ids base) o with
  | some o'=>some [(base,o')]
  | none=>none
 | _,_=>none

theorem aFa{Gf:List Nat}{base:Nat}:∀ {ids:List Nat} {m:Mem} {L:Upd},mF Gf base ids m=some L→ids.Nodup→base∉ids →
  (m.length=ids.length∨m.length=ids.length+1) ∧
  ∀ (N:Mem),(∀ (p i:Nat) (o':AO),ids[p]? = some i→(bG (upds N L) i=some o'↔∃ o,m[p]? = some (some o)∧mpO (bkI Gf base) o=some o')) ∧
   (m.length=ids.length+1→∀ (o':AO),(bG (upds N L) base=some o'↔∃ o,m[ids.length]? = some (some o)∧mpO (bkI Gf base) o=some o')) ∧
   (m.length=ids.length→bG (upds N L) base=bG N base) ∧
   ∀ j,j∉ids→j≠base→bG (upds N L) j=bG N j
 | [],[],L,h,_,_=>by
  unfold mF at h;cases h
  refine ⟨.inl rfl,fun N=>⟨fun p i o' hp=>by simp at hp,fun h=>by simp at h,fun _=>rfl,fun _ _ _=>rfl⟩⟩
 | [],[some o],L,h,_,_=>by
  unfold mF at h
  split at h
  ·rename_i o' ho
   cases h;refine ⟨.inr rfl,fun N=>⟨fun p i o' hp=>by simp at hp,fun _ o2 => ?_,fun h=>by simp at h,fun j _ hj => ?_⟩⟩
   ·simp only [upds]
    rw [cD,if_pos rfl];constructor
    ·intro h;cases h;exact ⟨o,rfl,ho⟩
    ·rintro ⟨o3,h3,h4⟩
     simp at h3;subst h3
     rw [ho] at h4;exact h4
   ·simp only [upds]
    rw [cD,if_neg (Ne.symm hj)]
  ·cases h
 | i::r,some o::m,L,h,hd,hb=>by
  unfold mF at h
  split at h
  ·rename_i o' ho
   simp only [jV] at h
   obtain ⟨L',Jo,rfl⟩:=h;obtain ⟨I2,I1⟩:=List.nodup_cons.1 hd;have Ce:base≠i:=fun e=>hb (by simp [e])
   have D4:base∉r:=fun e=>hb (B7 _ e)
   obtain ⟨q1,q2⟩:=aFa (ids:=r) Jo I1 D4;refine ⟨by simpa using q1,fun N => ?_⟩
   obtain ⟨r1,r2,r3,r4⟩:=q2 (aT N i (some o'));refine ⟨fun p j o2 hp => ?_,fun hl o2 => ?_,fun hl => ?_,fun j hj hne => ?_⟩
   ·cases p with
    | zero =>
     simp at hp;subst hp
     simp only [upds];rw [r4 i I2 (Ne.symm Ce),cD,if_pos rfl];constructor
     ·intro h;cases h;exact ⟨o,rfl,ho⟩
     ·rintro ⟨o3,h3,h4⟩
      simp at h3;subst h3
      rw [ho] at h4;exact h4
    | succ p =>
     simp only [upds];rw [List.getElem?_cons_succ] at hp
     rw [r1 p j o2 hp];rfl
   ·have:=r2 (by simpa using hl) o2
    simpa [upds] using this
   ·simp only [upds]
    rw [r3 (by simpa using hl),cD,if_neg (Ne.symm Ce)]
   ·simp only [upds]
    rw [r4 j (fun e=>hj (B7 _ e)) hne,cD,if_neg (fun e=>hj (by simp [e]))]
  ·cases h
 | [],none::_,L,h,_,_=>by unfold mF at h;cases h
 | [],some _::_::_,L,h,_,_=>by unfold mF at h;cases h
 | _::_,[],L,h,_,_=>by unfold mF at h;cases h
 | _::_,none::_,L,h,_,_=>by unfold mF at h;cases h

theorem aBf{Gf:List Nat}{base:Nat}:∀ {ids:List Nat} {m:Mem} {L:Upd},mF Gf base ids m=some L→∀ (p:Nat) (o1:AO),m[p]? = some (some o1)→∃ o',mpO (bkI Gf base) o1=some o'
 | [],[],L,h,p,o1,hp=>by simp at hp
 | [],[some o],L,h,p,o1,hp=>by
  unfold mF at h
  split at h
  ·rename_i hx
   cases p with
   | zero=>simp at hp;subst hp;exact ⟨_,hx⟩
   | succ p=>simp at hp
  ·cases h
 | i::r,some o::m,L,h,p,o1,hp=>by
  unfold mF at h
  split at h
  ·rename_i hx
   simp only [jV] at h
   obtain ⟨L',Jo,_⟩:=h;cases p with
   | zero=>simp at hp;subst hp;exact ⟨_,hx⟩
   | succ p=>exact aBf Jo p o1 (by simpa using hp)
  ·cases h
 | [],none::_,L,h,_,_,_=>by unfold mF at h;cases h
 | [],some _::_::_,L,h,_,_,_=>by unfold mF at h;cases h
 | _::_,[],L,h,_,_,_=>by unfold mF at h;cases h
 | _::_,none::_,L,h,_,_,_=>by unfold mF at h;cases h

def Cx.back(C C1:Cx)(ids:List Nat)(base:Nat):Cx :=
 {ι:=fun j=>match idx ids j 0 with | some p=>C1.ι p | none=>if j=base then C1.ι ids.length else C.ι j
  κ:=fun j=>match idx ids j 0 with | some p=>C1.κ p | none=>if j=base then C1.κ ids.length else C.κ j
  F:=C1.F }
theorem oJ:∀ {ids:List Nat},ids.Nodup→∀ {p i:Nat} (n:Nat),ids[p]? = some i→idx ids i n=some (n+p)
 | [],_,p,i,n,h=>by simp at h
 | a::r,hd,p,i,n,h=>by
  obtain ⟨h1,h2⟩:=List.nodup_cons.1 hd;unfold idx;cases p with
  | zero=>simp at h;subst h;simp
  | succ p =>
   rw [List.getElem?_cons_succ] at h
   have hne:a≠i:=fun e=>h1 (e ▸ Bf h)
   have hb:Nat.beq a i=false:=by
    cases hq:Nat.beq a i with
    | false=>rfl
    | true=>exact absurd (Nat.eq_of_beq_eq_true hq) hne
   rw [hb];have:=oJ h2 (n+1) h;simp only [this]
   congr 1;omega

theorem aGz{f:Nat→Option Nat}{C':Cx}{M':Mem}(hm:aVe f C C' M M'):∀ {l ys:List AV} {us:List Value},cG C M w l us→mpL f l=some ys→cG C' M' w ys us
 | [],ys,us,h,hr=>by cases h;simp only [mpL] at hr;cases hr;exact .nil
 | x::r,ys,us,h,hr=>by
  cases h with
  | cons _ u _ k hx hk =>
   simp only [mpL] at hr
   split at hr
   ·rename_i y hy
    simp only [jV] at hr
    obtain ⟨r',E5,rfl⟩:=hr;exact .cons _ _ _ _ (rL hm hx hy) (aGz hm hk E5)
   ·cases hr

theorem bJd{base:Nat}{ids:List Nat}{r y:AV}{L:Upd}{C1:Cx}{w':World}{u:Value}(hd:distinct 0 ids=true)(hb:eG M base=true)
  (hs:rnM 0 ids (ids.map (at? M))=some M0) (hlv:∀ i∈ids,dP M i=true) (hU:mF ids base ids M1=some L) (hy:mpA (bkI ids base) r=some y)
  (hM:aO P C M w) (hF:Fr (C.rn 0 ids) M0 w C1 M1 w') (Bd:aO P C1 M1 w') (hr:Rep C1 M1 w' r u):Fr C M w (C.back C1 ids base) (upds M L) w'∧aO P (C.back C1 ids base) (upds M L) w'∧Rep (C.back C1 ids base) (upds M L) w' y u:=by
 obtain ⟨_,hnd⟩:=gP hd;obtain ⟨B1,hmp,hsrc⟩:=pE (k:=0) hM hd hs;have hlen:M0.length=ids.length:=by have:=(zM hs).1;simpa using this
 have hbn:base∉ids:=fun hm=>by
  obtain ⟨o,h1,_⟩:=cT (hlv _ hm);exact cA hb o h1
 obtain ⟨hl1,hup⟩:=aFa hU hnd hbn;obtain ⟨u1,u2,u3,u4⟩:=hup M;have hL:=B1.le hF;have srcp:∀ p i,ids[p]? = some i→lH 0 ids p=some i:=fun p i h=>by simp [lH,h]
 have rnp:∀ p i,ids[p]? = some i→rnI 0 ids i=some p:=fun p i h=>by
  have:=oJ hnd 0 h;unfold rnI;rw [show Nat.blt i 0=false from rfl,this,fE]
 have B9:∀ p i,ids[p]? = some i→∃ o o0,M[i]? = some (some o)∧o.live=true∧M0[p]? = some (some o0)∧o0.live=true∧(C.rn 0 ids).ι p=C.ι i∧(C.rn 0 ids).κ p=C.κ i:=fun p i hp=>by
  obtain ⟨o,h1,h2⟩:=cT (hlv i (Bf hp));obtain ⟨o0,h3,h4⟩:=hmp.fw _ _ _ (rnp p i hp) h1;exact ⟨o,o0,h1,h2,h3,by rw [bC h4];exact h2,hmp.at_ _ _ (rnp p i hp)⟩
 have sh_of:∀ (p:Nat) (o0:AO),M0[p]? = some (some o0)→∃ i o,ids[p]? = some i∧M[i]? = some (some o)∧o.live=true∧o0.live=true∧(C.rn 0 ids).ι p=C.ι i:=fun p o0 hp=>by
  obtain ⟨hl,_⟩:=A2.1 hp;have Gy:ids[p]? = some ids[p]:=Ap (by omega)
  obtain ⟨o,o1,h1,h2,h3,h4,h5,_⟩:=B9 p _ Gy;rw [hp] at h3;cases h3
  exact ⟨_,o,Gy,h1,h2,h4,h5⟩
 have apart:∀ (j:Nat) (o:AO) (b:Nat),j∉ids→M[j]? = some (some o)→o.live=true→C.ι j=some b→w'.heap[b]? = w.heap[b]? ∧ ¬ C1.F b∧∀ (p:Nat) (o1:AO),M1[p]? = some (some o1)→o1.live=true→C1.ι p≠some b:=fun j o b hj h1 h2 h3=>by
  have Ce:=hM.lt j o b h1 h2 h3;have Jp:∀ (p:Nat) (o0:AO),M0[p]? = some (some o0)→o0.live=true→(C.rn 0 ids).ι p≠some b:=fun p o0 hp _ he=>by
   obtain ⟨i,o2,q1,q2,q3,_,q4⟩:=sh_of p o0 hp;rw [q4] at he
   have:=hM.inj j i o o2 b h1 h2 q2 q3 h3 he;subst this;exact hj (Bf q1)
  refine ⟨hF.keep b Ce Jp,fun hf => ?_,fun p o1 hp hl he => ?_⟩
  ·rcases hF.F2 b hf with q | q | ⟨p,o0,q1,q2,q3⟩
   ·exact hM.nF j o b h1 h2 h3 q
   ·omega
   ·exact Jp p o0 q1 q2 q3
  ·rcases hF.new p o1 b hp hl he with q | ⟨p0,o0,q1,q2,q3⟩
   ·omega
   ·exact Jp p0 o0 q1 q2 q3
 have ix:∀ j,(j∈ids→∃ p,idx ids j 0=some p∧ids[p]? = some j)∧(j∉ids→idx ids j 0=none):=fun j=>by
  refine ⟨fun hj => ?_,fun hj => ?_⟩
  ·obtain ⟨p,hp,he⟩:=List.mem_iff_getElem.1 hj
   have:ids[p]? = some j:=by rw [Ap hp,he]
   exact ⟨p,by simpa using oJ hnd 0 this,this⟩
  ·cases h1:idx ids j 0 with
   | none=>rfl
   | some p =>
    obtain ⟨_,h2⟩:=uA _ _ _ _ h1;exact absurd (Bf h2) hj
 have cls:∀ (j:Nat) (o':AO),(upds M L)[j]? = some (some o')→(∃ p o1,ids[p]? = some j∧M1[p]? = some (some o1)∧mpO (bkI ids base) o1=some o'∧(C.back C1 ids base).ι j=C1.ι p∧(C.back C1 ids base).κ j=C1.κ p) ∨
   (∃ o1,j=base∧j∉ids∧M1[ids.length]? = some (some o1)∧mpO (bkI ids base) o1=some o'∧(C.back C1 ids base).ι j=C1.ι ids.length∧(C.back C1 ids base).κ j=C1.κ ids.length) ∨
   (j∉ids∧j≠base∧M[j]? = some (some o')∧(C.back C1 ids base).ι j=C.ι j∧(C.back C1 ids base).κ j=C.κ j):=fun j o' hj=>by
  rw [← aZ] at hj
  by_cases hm:j∈ids
  ·obtain ⟨p,G9,Gz⟩:=(ix j).1 hm
   obtain ⟨o1,h1,h2⟩:=(u1 p j o' Gz).1 hj;exact .inl ⟨p,o1,Gz,h1,h2,by simp [Cx.back,G9],by simp [Cx.back,G9]⟩
  ·have hn:=(ix j).2 hm
   by_cases hjb:j=base
   ·subst hjb
    rcases hl1 with hl | hl
    ·rw [u3 hl] at hj
     have:=cA hb o';exact absurd (aZ.1 hj) this
    ·obtain ⟨o1,h1,h2⟩:=(u2 hl o').1 hj
     exact .inr (.inl ⟨o1,rfl,hm,h1,h2,by simp [Cx.back,hn],by simp [Cx.back,hn]⟩)
   ·rw [u4 j hm hjb] at hj
    exact .inr (.inr ⟨hm,hjb,aZ.1 hj,by simp [Cx.back,hn,hjb],by simp [Cx.back,hn,hjb]⟩)
 have E0:Fr C M w (C.back C1 ids base) (upds M L) w':=by
  refine ⟨hF.os,hF.tape,hF.out,hF.size,fun b Ce hn => ?_,fun i o ho => ?_,fun i o ho ty n cs hx => ?_,fun i o ho o' hx hl => ?_,fun j o b hj hl hjb => ?_,fun b hb=>hF.F1 b hb,fun b hb => ?_⟩
  ·exact hF.keep b Ce fun p o0 hp hl he=>by
    obtain ⟨i,o2,q1,q2,q3,_,q4⟩:=sh_of p o0 hp;rw [q4] at he
    exact hn i o2 q2 q3 he
  ·by_cases hm:i∈ids
   ·obtain ⟨p,G9,Gz⟩:=(ix i).1 hm
    obtain ⟨_,o0,_,_,h3,h4,h5,h6⟩:=B9 p i Gz;obtain ⟨⟨o1,q1⟩,q2,q3⟩:=hF.ids p o0 h3;refine ⟨?_,by simp only [Cx.back,G9];rw [q2,h5],by simp only [Cx.back,G9];rw [q3,h6]⟩
    have hq:∃ o',mpO (bkI ids base) o1=some o':=by
     exact aBf hU p o1 q1
    obtain ⟨o',hq⟩:=hq;exact ⟨o',aZ.1 ((u1 p i o' Gz).2 ⟨o1,q1,hq⟩)⟩
   ·have hne:i≠base:=fun e=>by subst e;exact cA hb o ho
    refine ⟨⟨o,aZ.1 (by rw [u4 i hm hne];exact aZ.2 ho)⟩,by simp [Cx.back,(ix i).2 hm,hne],by simp [Cx.back,(ix i).2 hm,hne]⟩
  ·rcases cls i _ hx with ⟨p,o1,q1,q2,q3,_⟩ | ⟨o1,rfl,_⟩ | ⟨_,_,q3,_⟩
   ·rw [jP q3] at q2
    obtain ⟨o2,o0,h1,_,h3,_⟩:=B9 p i q1;obtain ⟨A9,h5⟩:=hF.row p o0 h3 _ _ _ q2;obtain ⟨o4,h6,h7⟩:=hmp.bk _ _ _ (rnp p i q1) h5;rw [jP h7] at h6
    exact ⟨A9,h6⟩
   ·exact absurd ho (cA hb o)
   ·exact ⟨cs,q3⟩
  ·rcases cls i _ hx with ⟨p,o1,q1,q2,q3,_⟩ | ⟨o1,rfl,_⟩ | ⟨_,_,q3,_⟩
   ·obtain ⟨o2,o0,h1,h2,h3,_⟩:=B9 p i q1
    rw [ho] at h1;cases h1
    exact h2
   ·exact absurd ho (cA hb o)
   ·rw [ho] at q3;cases q3;exact hl
  ·have fin:∀ (p:Nat) (o1:AO),M1[p]? = some (some o1)→o1.live=true→C1.ι p=some b→w.heap.size≤b∨∃ (Fq:Nat) (o0:AO),M[Fq]? = some (some o0)∧o0.live=true∧C.ι Fq=some b:=fun p o1 h1 h2 h3=>by
    rcases hF.new p o1 b h1 h2 h3 with q | ⟨p0,o0,q1,q2,q3⟩
    ·exact .inl q
    ·obtain ⟨i,o2,r1,r2,r3,_,r4⟩:=sh_of p0 o0 q1
     rw [r4] at q3
     exact .inr ⟨i,o2,r2,r3,q3⟩
   rcases cls j _ hj with ⟨p,o1,q1,q2,q3,q4,_⟩ | ⟨o1,rfl,_,q2,q3,q4,_⟩ | ⟨_,_,q3,q4,_⟩
   ·rw [q4] at hjb
    exact fin p o1 q2 (by rw [← bC q3];exact hl) hjb
   ·rw [q4] at hjb
    exact fin _ o1 q2 (by rw [← bC q3];exact hl) hjb
   ·rw [q4] at hjb
    exact .inr ⟨j,o,q3,hl,hjb⟩
  ·rcases hF.F2 b hb with q | q | ⟨p,o0,q1,q2,q3⟩
   ·exact .inl q
   ·exact .inr (.inl q)
   ·obtain ⟨i,o2,r1,r2,r3,_,r4⟩:=sh_of p o0 q1
    rw [r4] at q3
    exact .inr (.inr ⟨i,o2,r2,r3,q3⟩)
 have E9:=hM.le E0;have hbk:aVe (bkI ids base) C1 (C.back C1 ids base) M1 (upds M L):=by
  have two:∀ i j,bkI ids base i=some j→(ids[i]? = some j)∨(i=ids.length∧j=base):=fun i j h=>by
   unfold bkI at h
   split at h
   ·rename_i hi;cases h;exact .inl hi
   ·split at h
    ·rename_i hq;cases h;exact .inr ⟨Nat.eq_of_beq_eq_true hq,rfl⟩
    ·cases h
  have big:∀ (o:AO),M1[ids.length]? = some (some o)→M1.length=ids.length+1:=fun o h=>by
   obtain ⟨hl,_⟩:=A2.1 h;omega
  refine ⟨fun i j o' hij hj => ?_,fun i j o hij hi => ?_,fun i j hij => ?_,fun _ h=>h⟩
  ·rcases two i j hij with h1 | ⟨rfl,rfl⟩
   ·exact (u1 i j o' h1).1 (aZ.2 hj)
   ·rcases hl1 with hl | hl
    ·have:=aZ.2 hj
     rw [u3 hl] at this
     exact absurd (aZ.1 this) (cA hb o')
    ·exact (u2 hl o').1 (aZ.2 hj)
  ·have hq:∃ o',mpO (bkI ids base) o=some o':=by
    exact aBf hU i o hi
   obtain ⟨o',hq⟩:=hq
   rcases two i j hij with h1 | ⟨rfl,rfl⟩
   ·exact ⟨o',aZ.1 ((u1 i j o' h1).2 ⟨o,hi,hq⟩),hq⟩
   ·exact ⟨o',aZ.1 ((u2 (big o hi) o').2 ⟨o,hi,hq⟩),hq⟩
  ·rcases two i j hij with h1 | ⟨rfl,rfl⟩
   ·have:=oJ hnd 0 h1
    rw [fE] at this
    simp [Cx.back,this]
   ·simp [Cx.back,(ix _).2 hbn]
 refine ⟨E0,⟨fun j ty n cs h => ?_,fun j ty cs h => ?_,fun j es cl h => ?_,fun j j' o1 o2 b q1 l1 q2 l2 e1 e2 => ?_,fun j o b h hl hb => ?_,Bd.Fs,fun j o b h hl hb => ?_⟩,rL hbk hr hy⟩
 ·rcases cls j _ h with ⟨p,o1,q1,q2,q3,q4,q5⟩ | ⟨o1,rfl,_,q2,q3,q4,q5⟩ | ⟨q1,_,q3,q4,q5⟩
  ·rw [jP q3] at q2
   rw [q4,q5];exact Bd.row _ _ _ _ q2
  ·rw [jP q3] at q2
   rw [q4,q5];exact Bd.row _ _ _ _ q2
  ·rw [q4,q5]
   rcases hM.row _ _ _ _ q3 with q | ⟨b,arr,inf,p0,p1,p2,p3,p4,p5,p6,p7,p8⟩
   ·exact .inl q
   ·exact .inr ⟨b,arr,inf,p0,by rw [(apart j _ b q1 q3 rfl p0).1];exact p1,p2,p3,p4,p5,p6,fun i hi=>(p7 i hi).mono E9.F E9.fz,p8⟩
 ·rcases cls j _ h with ⟨p,o1,q1,q2,q3,q4,q5⟩ | ⟨o1,rfl,_,q2,q3,q4,q5⟩ | ⟨q1,_,q3,q4,q5⟩
  ·cases o1 with
   | box Cb l =>
    simp only [mpO,jV] at q3
    obtain ⟨l',Cy,e⟩:=q3;cases e;obtain ⟨b,arr,p0,p1,p2,p3,p4⟩:=Bd.box _ _ _ q2;obtain ⟨n1,n2⟩:=eW hbk (w:=w') (us:=fun j=>arr.getD j undef) p3 Cy
    exact ⟨b,arr,by rw [q4];exact p0,p1,by omega,n2,fun j hj=>p4 j (by omega)⟩
   | row=>simp [mpO] at q3
   | mp=>simp [mpO] at q3
   | pk=>simp [mpO] at q3
   | dead=>simp [mpO] at q3
  ·cases o1 with
   | box Cb l =>
    simp only [mpO,jV] at q3
    obtain ⟨l',Cy,e⟩:=q3;cases e;obtain ⟨b,arr,p0,p1,p2,p3,p4⟩:=Bd.box _ _ _ q2;obtain ⟨n1,n2⟩:=eW hbk (w:=w') (us:=fun j=>arr.getD j undef) p3 Cy
    exact ⟨b,arr,by rw [q4];exact p0,p1,by omega,n2,fun j hj=>p4 j (by omega)⟩
   | row=>simp [mpO] at q3
   | mp=>simp [mpO] at q3
   | pk=>simp [mpO] at q3
   | dead=>simp [mpO] at q3
  ·obtain ⟨b,arr,p0,p1,p2,p3,p4⟩:=hM.box _ _ _ q3
   exact ⟨b,arr,by rw [q4];exact p0,by rw [(apart j _ b q1 q3 rfl p0).1];exact p1,p2,fun i hi=>(p3 i hi).mono E9,p4⟩
 ·rcases cls j _ h with ⟨p,o1,q1,q2,q3,q4,q5⟩ | ⟨o1,rfl,_,q2,q3,q4,q5⟩ | ⟨q1,_,q3,q4,q5⟩
  ·cases o1 with
   | mp Bq Cp =>
    simp only [mpO,Option.some.injEq] at q3
    cases q3;obtain ⟨b,arr,p0,p1,p2,p3⟩:=Bd.mp _ _ _ q2;refine ⟨b,arr,by rw [q4];exact p0,p1,p2,fun j hj => ?_⟩
    obtain ⟨en,s1,s2,s3,s4⟩:=p3 j hj;exact ⟨en,s1,s2,s3,s4.mono hbk.F (fun _ _=>rfl)⟩
   | row=>simp [mpO] at q3
   | box=>simp [mpO] at q3
   | pk=>simp [mpO] at q3
   | dead=>simp [mpO] at q3
  ·cases o1 with
   | mp Bq Cp =>
    simp only [mpO,Option.some.injEq] at q3
    cases q3;obtain ⟨b,arr,p0,p1,p2,p3⟩:=Bd.mp _ _ _ q2;refine ⟨b,arr,by rw [q4];exact p0,p1,p2,fun j hj => ?_⟩
    obtain ⟨en,s1,s2,s3,s4⟩:=p3 j hj;exact ⟨en,s1,s2,s3,s4.mono hbk.F (fun _ _=>rfl)⟩
   | row=>simp [mpO] at q3
   | box=>simp [mpO] at q3
   | pk=>simp [mpO] at q3
   | dead=>simp [mpO] at q3
  ·obtain ⟨b,arr,p0,p1,p2,p3⟩:=hM.mp _ _ _ q3
   refine ⟨b,arr,by rw [q4];exact p0,by rw [(apart j _ b q1 q3 rfl p0).1];exact p1,p2,fun i hi => ?_⟩
   obtain ⟨en,s1,s2,s3,s4⟩:=p3 i hi;exact ⟨en,s1,s2,s3,s4.mono E9.F E9.fz⟩
 ·rcases cls j _ q1 with ⟨p,a1,r1,r2,r3,r4,_⟩ | ⟨a1,rfl,r1,r2,r3,r4,_⟩ | ⟨r1,rb,r3,r4,_⟩ <;> rcases cls j' _ q2 with ⟨p',a2,t1,t2,t3,t4,_⟩ | ⟨a2,rfl,t1,t2,t3,t4,_⟩ | ⟨t1,tb,t3,t4,_⟩
  all_goals try rfl
  all_goals (rw [r4] at e1;rw [t4] at e2)
  ·have:=Bd.inj p p' a1 a2 b r2 (by rw [← bC r3];exact l1) t2 (by rw [← bC t3];exact l2) e1 e2
   subst this;rw [r1] at t1;cases t1;rfl
  ·have:=Bd.inj p _ a1 a2 b r2 (by rw [← bC r3];exact l1) t2 (by rw [← bC t3];exact l2) e1 e2
   obtain ⟨hl,_⟩:=A2.1 r1;omega
  ·exact absurd e1 ((apart j' o2 b t1 t3 l2 e2).2.2 p a1 r2 (by rw [← bC r3];exact l1))
  ·have:=Bd.inj _ p' a1 a2 b r2 (by rw [← bC r3];exact l1) t2 (by rw [← bC t3];exact l2) e1 e2
   obtain ⟨hl,_⟩:=A2.1 t1;omega
  ·exact absurd e1 ((apart j' o2 b t1 t3 l2 e2).2.2 _ a1 r2 (by rw [← bC r3];exact l1))
  ·exact absurd e2 ((apart j o1 b r1 r3 l1 e1).2.2 p' a2 t2 (by rw [← bC t3];exact l2))
  ·exact absurd e2 ((apart j o1 b r1 r3 l1 e1).2.2 _ a2 t2 (by rw [← bC t3];exact l2))
  ·exact hM.inj j j' o1 o2 b r3 l1 t3 l2 e1 e2
 ·rcases cls j _ h with ⟨p,o1,q1,q2,q3,q4,q5⟩ | ⟨o1,rfl,_,q2,q3,q4,q5⟩ | ⟨q1,_,q3,q4,q5⟩
  ·rw [q4] at hb
   exact Bd.nF _ _ b q2 (by rw [← bC q3];exact hl) hb
  ·rw [q4] at hb
   exact Bd.nF _ _ b q2 (by rw [← bC q3];exact hl) hb
  ·rw [q4] at hb
   exact (apart j o b q1 q3 hl hb).2.1
 ·rcases cls j _ h with ⟨p,o1,q1,q2,q3,q4,q5⟩ | ⟨o1,rfl,_,q2,q3,q4,q5⟩ | ⟨q1,_,q3,q4,q5⟩
  ·rw [q4] at hb
   exact Bd.lt _ _ b q2 (by rw [← bC q3];exact hl) hb
  ·rw [q4] at hb
   exact Bd.lt _ _ b q2 (by rw [← bC q3];exact hl) hb
  ·rw [q4] at hb
   exact B5 (hM.lt j o b q3 hl hb) hF.size

theorem aOk{f base:Nat}{ids:List Nat}{args Av:List AV}{r y:AV}{L:Upd}(hd:distinct 0 ids=true)(hb:eG M base=true)
  (hs:rnM 0 ids (ids.map (at? M))=some M0) (hlv:∀ i∈ids,dP M i=true) (ha:rnL 0 ids args=some Av) (hU:mF ids base ids M1=some L) (hy:mpA (bkI ids base) r=some y)
  (h:FMM P f Av M0 r M1):FM P f args M y L:=by
 intro C w us hus hM n;obtain ⟨B1,hmp,_⟩:=pE (k:=0) hM hd hs;refine (h (C.rn 0 ids) w us (aGz hmp hus ha) B1 n).mono ?_;rintro e w' ⟨u,rfl,C1,hF,Bd,hr⟩;exact ⟨u,rfl,C.back C1 ids base,bJd hd hb hs hlv hU hy hM hF Bd hr⟩
def shown(ids:List Nat)(base:Nat)(args:List AV)(bs:Upd)(M1:Mem)(r:AV):Option (List AV × Mem × AV × Upd):=match distinct 0 ids && ids.all (dP (upds [] bs)) with
 | true=>match rnM 0 ids (ids.map (at? (upds [] bs))) with
  | some M0=>match rnL 0 ids args with
   | some Av=>match mF ids base ids M1 with
    | some L=>match mpA (bkI ids base) r with
     | some y=>some (Av,M0,y,L)
     | none=>none
    | none=>none
   | none=>none
  | none=>none
 | false=>none
theorem FMM.fc{f base:Nat}{ids:List Nat}{args Av:List AV}{bs:Upd}{r y:AV}{L:Upd}(h:FMM P f Av M0 r M1)(hs:shown ids base args bs M1 r=some (Av,M0,y,L)):FC P f args bs base y L:=fun M hb hf _=>by
 unfold shown at hs
 have hsub:aMm (upds [] bs) M:=fun id o ho=>by
  rcases pC bs [] id o ho with h5 | h5
  ·exact hb _ h5
  ·simp [bG] at h5
 split at hs
 ·rename_i hd
  rw [Bg,fD] at hd
  have hlv:∀ i∈ids,∃ o,bG (upds [] bs) i=some o∧bG M i=some o∧o.live=true:=fun i hi=>by
   obtain ⟨o,h1,h2⟩:=cT (hd.2 i hi);exact ⟨o,aZ.2 h1,hsub _ _ (aZ.2 h1),h2⟩
  split at hs
  ·rename_i h1
   split at hs
   ·rename_i h2
    split at hs
    ·rename_i h3
     split at hs
     ·rename_i h4
      cases hs;have he:ids.map (at? M)=ids.map (at? (upds [] bs)):=yO fun i hi=>by
       obtain ⟨o,q1,q2,_⟩:=hlv i hi;unfold at?
       rw [q1,q2]
      refine aOk hd.1 hf (by rw [he];exact h1) (fun i hi => ?_) h2 h3 h4 h
      obtain ⟨o,_,q2,q3⟩:=hlv i hi;exact gX (aZ.1 q2) q3
     ·cases hs
    ·cases hs
   ·cases hs
  ·cases hs
 ·cases hs

theorem aKv{id ty n:Nat}{cs:List PV}(hM:aO P C M w)(ho:M[id]? = some (some (.row ty n cs))):∀ {l:List AV} {us:List Value},cG C M w l us→cG (C.close id true) (aT M id (some .dead)) w (fzL id n cs l) us
 | [],us,h=>by cases h;simp only [fzL];exact .nil
 | x::r,us,h=>by
  cases h with
  | cons _ u _ k hx hr =>
   simp only [fzL];exact .cons _ _ _ _ (aEd hM ho hx) (aKv hM ho hr)
theorem FM.close1{f id ty n:Nat}{cs:List PV}{args:List AV}{y:AV}{L:Upd}(ho:bG M id=some (.row ty n cs))(h:FM P f (fzL id n cs args) (aT M id (some .dead)) y L):FM P f args M y ((id,.dead)::L):=fun C w us hus hM k=>by
 have ho:=aZ.1 ho;have fk:=cE (C:=C) (w:=w) true ho rfl;refine (h _ w us (aKv hM ho hus) (lC hM true ho rfl) k).mono ?_;rintro e w' ⟨u,rfl,C',hF,E1,hr⟩;exact ⟨u,rfl,C',fk.trans hF,E1,hr⟩
def aBg(bs:Upd):List Nat→List AV→Option (List AV)
 | [],args=>match iL args with
  | true=>some args
  | false=>none
 | id::r,args=>match bG (upds [] bs) id with
  | some (.row _ n cs)=>match r.all (fun j => !Nat.beq j id) with
   | true=>aBg bs r (fzL id n cs args)
   | false=>none
  | _=>none
def kills:List Nat→Upd→Upd
 | [],L=>L
 | id::r,L=>(id,.dead)::kills r L
theorem aFb{f base:Nat}{bs:Upd}{y:AV}{L:Upd}:∀ {ids:List Nat} {M:Mem} {args Am:List AV},aBg bs ids args=some Am→(∀ id∈ids,∀ o,bG (upds [] bs) id=some o→bG M id=some o)→eG M base=true→FV P f Am base y L→FM P f args M y (kills ids L)
 | [],M,args,Am,hc,_,hf,h=>by
  unfold aBg at hc
  split at hc
  ·rename_i hn
   cases hc;obtain ⟨r,M1,h1,h2⟩:=h;exact vW (.inl ⟨hn,rfl⟩) hf h2 h1
  ·cases hc
 | id::r,M,args,Am,hc,hb,hf,h=>by
  unfold aBg at hc
  split at hc
  ·rename_i ty n cs ho
   split at hc
   ·rename_i hd
    have hoM:=hb id (jI ..) _ ho;refine FM.close1 hoM (aFb hc (fun j hj o hjo => ?_) ?_ h)
    ·have hne:j≠id:=fun e=>by
      have:=fD.1 hd j hj;subst e;simp at this
     rw [cD,if_neg (Ne.symm hne)];exact hb j (B7 _ hj) o hjo
    ·have hne:id≠base:=fun e=>by
      subst e;exact cA hf _ (aZ.1 hoM)
     unfold eG at hf ⊢
     rw [cD,if_neg hne];exact hf
   ·cases hc
  ·cases hc
theorem FV.close{f base:Nat}{ids:List Nat}{args Am:List AV}{y:AV}{L bs:Upd}(h:FV P f Am base y L)(hc:aBg bs ids args=some Am):FC P f args bs base y (kills ids L):=fun M hb hf _=>by
 refine aFb hc (fun id _ o ho => ?_) hf h
 rcases pC bs [] id o ho with h5 | h5
 ·exact hb _ h5
 ·simp [bG] at h5

def unA:AV→AV
 | .tup l => .tup (l.map un)
 | x=>un x
theorem bJe{x:AV}{u:Value}(h:Rep C M w x u):Rep C M w (unA x) u:=by
 cases h with
 | tup cs vs h1 h2 =>
  refine .tup _ _ (by simpa using h1) (fun i hi => ?_)
  simp only [kD];exact bEd (h2 i (by simpa using hi))
 | p x u h=>exact .p _ _ h
 | any u=>exact .any u
 | kb b=>exact bEd (.kb b)
 | yld l=>exact .yld l
 | own id u h0 ha h=>exact .own id u h0 ha h
 | arr id off n u h0 ha h=>exact .arr id off n u h0 ha h
 | ptr id off u h0 ha h hp=>exact .ptr id off u h0 ha h hp
 | mp id u h0 ha h=>exact .mp id u h0 ha h
 | pa id q u h0 ha h=>exact .pa id q u h0 ha h
 | rp cs off b o us h1 h2 h3=>exact .rp cs off b o us h1 h2 h3
 | agg cs vs h0 h1 h2=>exact .agg cs vs h0 h1 h2
 | fn f cs ds us vs h1 h2 h3 h4=>exact .fn f cs ds us vs h1 h2 h3 h4
theorem sW.un{f:Nat}{args:List AV}{M M1:Mem}{r:AV}(h:sW P f args M r M1):sW P f args M (unA r) M1:=fun C w us hus hM n=>by
 refine (h C w us hus hM n).mono ?_;rintro e w' ⟨u,rfl,C1,hF,Bd,hr,hP⟩;exact ⟨u,rfl,C1,hF,Bd,bJe hr,hP⟩

def bJf(k:Nat)(g:Gh)(x:Option ((AV × Mem) × AS)):Option (AV × Mem × List Prop × List OI):=match x with
 | some ((r,M1),s)=>match gh k g ⟨[unA r],M1⟩ with
  | some ⟨[r'],M'⟩=>some (r',M',s.obs,s.o)
  | _=>none
 | none=>none
theorem sW.gh{f k:Nat}{args:List AV}{M M1 M':Mem}{r r':AV}{g:Gh}(hk:M.length≤k)(h:sW P f args M r M1)(hg:KV.gh k g ⟨[r],M1⟩=some ⟨[r'],M'⟩):sW P f args M r' M':=fun C w us hus hM n=>by
 refine (h C w us hus hM n).mono ?_;rintro e w' ⟨u,rfl,C1,hF,Bd,hr,hP⟩;have hs:Sim P (C.with []) M w ⟨[r],M1⟩ { tmps := #[u],defers:=[] } w':=⟨C1,⟨rfl,fun i hi=>by
  obtain rfl:i=0:=by simpa using hi
  exact hr⟩,Bd,hF.based [],⟨[],rfl,.nil,fun D h=>by simp at h⟩,fun p hp=>(by cases hp),hP⟩
 obtain ⟨C2,hS,Gw,E0,_,_,S7⟩:=dU hk hg hs;exact ⟨u,rfl,C2,E0.unbased,Gw,hS.rep 0 (by simp),S7⟩
end
section
/-- numbers, by runs -/
def rng:List (Nat × Nat)→List Nat
 | []=>[]
 | (a,n)::r=>List.range' a n++rng r

abbrev aA(n:Int):PV := .v (.int .i64 n)
abbrev blP(b:Bool):PV := .v (.bool b)
abbrev aG(l:List Int):PV := .sl l.length (l.map aA)
abbrev aKu(l:Lqq):PV := .sl l.length (l.map aG)
abbrev dY:PV := .v (.slice none 0 0)

def EO:Env:=⟨fun _ _ _ _=>none,ok⟩
theorem aEy:kI Tp EO:=⟨fun _ _ _ _ _ _ h=>(by cases h),bPk⟩

def cd(f:Func):Code:=f.body.getD .skip
def sub:Code→List Nat→Code
 | c,[]=>c
 | .seq a b,i::r=>match i with | 0=>sub a r | _=>sub b r
 | .cond _ a b,i::r=>match i with | 0=>sub a r | _=>sub b r
 | .block _ b,_::r=>sub b r
 | .loop b,_::r=>sub b r
 | .scope b,_::r=>sub b r
 | .rangeFunc _ _ a b,i::r=>match i with | 0=>sub a r | _=>sub b r
 | _,_::_ => .skip
def look:List (Nat × AV)→Nat→AV
 | [],_ => .any
 | (i,x)::r,k=>match Nat.beq i k with
  | true=>x
  | false=>look r k
def frm(l:List (Nat × AV)):Nat→Nat→List AV
 | 0,_=>[]
 | n+1,k=>look l k::frm l n (k+1)
abbrev fr(n:Nat)(l:List (Nat × AV)):List AV:=frm l n 0

abbrev asg(o:List OI):AS:=⟨false,o,[]⟩
abbrev out(l:List Prop):AS:=⟨false,[],l⟩
theorem gn:aW (out []):=fun _ h=>by simp at h
theorem gc{p:Prop}{l:List Prop}(hp:p)(h:aW (out l)):aW (out (p::l)):=fun q hq=>by
 rcases gG.1 hq with rfl | hq
 ·exact hp
 ·exact h q hq

def bPh(base:Nat)(x:Option ((AV × Mem) × AS)):Option (AV × Upd × List Prop × List OI):=match x with
 | some ((r,M1),s)=>match aUx M1 base (unA r) with
  | some (y,L)=>some (y,L,s.obs,s.o)
  | none=>none
 | none=>none
theorem FV.fin{f base:Nat}{fn:Func}{args:List AV}{y:AV}{L:Upd}{o:List OI}{l:List Prop}(hf:Tryz.prog.funcs[f]? = some fn)(hb:fn.body.isSome=true)
  (h:bPh base (aMp Tp tT EO 0 fn (cd fn) args [] (asg o))=some (y,L,l,[])) (g:aW (out l)):FV Tp f args base y L:=by
 unfold bPh at h
 split at h
 ·rename_i r M1 s hr
  split at h
  ·rename_i y' L' ho
   simp only [Option.some.injEq,Prod.mk.injEq] at h
   obtain ⟨rfl,rfl,rfl,hs⟩:=h;refine ⟨unA r,M1,(sW.un (xK aEz aEy mixed hf ?_ hr (fun p hp=>g p hp))).fmm,ho⟩
   unfold cd;cases h1:fn.body with
   | none=>rw [h1] at hb;cases hb
   | some c=>rfl
  ·cases h
 ·cases h
def yP(k:Nat)(g:Gh)(x:Option ((Ex × St) × AS)):Option (Ex × St × List Prop × List OI):=match x with
 | some ((e,st1),s)=>match gh k g st1 with
  | some Ag=>some (e,Ag,s.obs,s.o)
  | none=>none
 | none=>none
theorem aC.fin{k:Nat}{c:Code}{st Ag:St}{e:Ex}{g:Gh}{o:List OI}{l:List Prop}(h:yP k g (yJ Tp tT EO k 0 c st (asg o))=some (e,Ag,l,[]))(gd:aW (out l)):aC Tp k c st e Ag:=by
 unfold yP at h
 split at h
 ·rename_i e1 st1 s hr
  split at h
  ·rename_i st2 hg
   simp only [Option.some.injEq,Prod.mk.injEq] at h
   obtain ⟨rfl,rfl,rfl,hs⟩:=h;exact (zL aEz aEy mixed c hr (fun p hp=>gd p hp)).post hg
  ·cases h
 ·cases h
theorem sW.fin{f k:Nat}{fn:Func}{args:List AV}{M M':Mem}{r:AV}{g:Gh}{o:List OI}{l:List Prop}(hk:M.length=k)(hf:Tryz.prog.funcs[f]? = some fn)(hb:fn.body.isSome=true)
  (h:bJf k g (aMp Tp tT EO 0 fn (cd fn) args M (asg o))=some (r,M',l,[])) (gd:aW (out l)):sW Tp f args M r M':=by
 unfold bJf at h
 split at h
 ·rename_i r1 M1 s hr
  split at h
  ·rename_i r2 M2 hg
   simp only [Option.some.injEq,Prod.mk.injEq] at h
   obtain ⟨rfl,rfl,rfl,hs⟩:=h;refine sW.gh (Nat.le_of_eq hk) (sW.un (xK aEz aEy mixed hf ?_ hr (fun p hp=>gd p hp))) hg
   unfold cd;cases h1:fn.body with
   | none=>rw [h1] at hb;cases hb
   | some c=>rfl
  ·cases h
 ·cases h
theorem FMM.fin{f k:Nat}{fn:Func}{args:List AV}{M M':Mem}{r:AV}{g:Gh}{o:List OI}{l:List Prop}(hk:M.length=k)(hf:Tryz.prog.funcs[f]? = some fn)(hb:fn.body.isSome=true)
  (h:bJf k g (aMp Tp tT EO 0 fn (cd fn) args M (asg o))=some (r,M',l,[])) (gd:aW (out l)):FMM Tp f args M r M':=(sW.fin hk hf hb h gd).fmm
theorem FV.frz{P:Program}{f base:Nat}{args:List AV}{y:AV}(h:FMM P f args [] y [])(ho:aUx [] base y=some (y,[])):FV P f args base y []:=⟨y,[],h,ho⟩
theorem aC.cast{P:Program}{k:Nat}{c:Code}{st st1 Ag:St}{e:Ex}(h:aC P k c st e st1)(he:st1=Ag):aC P k c st e Ag:=he ▸ h
def cC(st:St)(l:List (Nat × AV)):St:=⟨l.foldl (fun t p=>t.set p.1 p.2) st.t,st.m⟩

theorem eP{x y:Int}(h:x=y):(x == y)=true:=by simpa using h
theorem bL{x y:Int}(h:x≠y):(x == y)=false:=by simpa using h
theorem sQ{x y:Int}(h:x≠y):(x != y)=true:=by simpa using h
theorem iI{x y:Int}(h:x=y):(x != y)=false:=by simpa using h
theorem eV{x y:Int}(h:x<y):decide (x<y)=true:=by simpa using h
theorem bA{x y:Int}(h:y≤x):decide (x<y)=false:=by simpa using h
theorem aWq{x y:Int}(h:x≤y):decide (x≤y)=true:=by simpa using h
theorem pZ{x y:Int}(h:y<x):decide (x≤y)=false:=by simpa using h
theorem bZ{b:Bool}(h:b=false):(!b)=true:=by simpa using h
theorem aV{b:Bool}(h:b=true):(!b)=false:=by simpa using h

theorem mE{α:Type}{g:α→PV}{l:List α}{i:Nat}{x:α}(h:l[i]? = some x):(l.map g)[i*1]? = some (g x):=by rw [Nat.mul_one,B6,h];rfl
theorem oI{α:Type}{g:α→PV}{l:List α}{i:Int}{x:α}(h0:0≤i)(h:l[i.toNat]? = some x):0≤i∧i<(l.length:Int)∧i.toNat*1<(l.map g).length:=by
 obtain ⟨h1,_⟩:=A2.1 h;refine ⟨h0,by omega,by simpa using h1⟩
theorem cW{α:Type}{l:List α}{i:Int}{x:α}(h0:0≤i)(h:l[i.toNat]? = some x):0≤i∧i<(l.length:Int):=by
 obtain ⟨h1,_⟩:=A2.1 h;exact ⟨h0,by omega⟩
theorem fk{P:Program}{f:Nat}{args:List AV}{y:AV}{L:Upd}(base:Nat)(h:FV P f args base y L)(hn:iL args=true):FC P f args [] base y L:=h.fc hn
theorem fv{P:Program}{f base:Nat}{args Am:List AV}{y:AV}{L:Upd}{bs:List (Nat × AO)}(h:FV P f Am base y L)(hv:lQ (upds [] bs) args=some Am:=by kernel_rfl)(h1:aUz y=true:=by kernel_rfl)(h2:aVa L=true:=by kernel_rfl):FC P f args bs base y L:=h.view hv h1 h2
theorem ixn{α:Type}{l:List α}{i:Nat}{x:α}(g:α→PV)(h:l[i]? = some x):0≤(i:Int)∧(i:Int)<(l.length:Int)∧(i:Int).toNat*1<(l.map g).length:=oI (hZ _) (by rwa [aOh])
theorem atm{α:Type}{l:List α}{i:Nat}{x:α}(g:α→PV)(h:l[i]? = some x):(l.map g)[i*1]? = some (g x):=mE h
abbrev bF:OI := .b false
abbrev bT:OI := .b true
abbrev pI (n:Int):AV:=.p (aA n)
abbrev pB (b:Bool):AV:=.p (blP b)
abbrev fS (l:Lqq):PV:=.sl l.length (l.flatten.map aA)
theorem Bc {p:Prop}{l:List Prop}(hp:p)(h:aW (out l)):aW (out (p::p::l)):=gc hp (gc hp (h))
theorem Ar {p:Prop}{l:List Prop}(hp:p)(h:aW (out l)):aW (out (p::p::p::l)):=gc hp (gc hp (gc hp (h)))
theorem A3 {p:Prop}{l:List Prop}(hp:p)(h:aW (out l)):aW (out (p::p::p::p::l)):=gc hp (gc hp (gc hp (gc hp (h))))
theorem Cn {p:Prop}{l:List Prop}(hp:p)(h:aW (out l)):aW (out (p::p::p::p::p::l)):=gc hp (gc hp (gc hp (gc hp (gc hp (h)))))
theorem Jm {p:Prop}{l:List Prop}(hp:p)(h:aW (out l)):aW (out (p::p::p::p::p::p::l)):=gc hp (gc hp (gc hp (gc hp (gc hp (gc hp (h))))))
theorem G8 {p:Prop}{l:List Prop}(hp:p)(h:aW (out l)):aW (out (p::p::p::p::p::p::p::l)):=gc hp (gc hp (gc hp (gc hp (gc hp (gc hp (gc hp (h)))))))
theorem Jn {p:Prop}{l:List Prop}(hp:p)(h:aW (out l)):aW (out (p::p::p::p::p::p::p::p::l)):=gc hp (gc hp (gc hp (gc hp (gc hp (gc hp (gc hp (gc hp (h))))))))
theorem gt (p:Prop){l:List Prop}(hp:p)(h:aW (out l)):aW (out (p::l)):=gc hp h
theorem gr (v:PV){l:List Prop}(h:aW (out l)):aW (out ((some v=some v)::l)):=gc rfl h
theorem gf{l:List Prop}(h:aW (out l)):aW (out ((false=false)::l)):=gc rfl h
def FC.o{P:Program}{f:Nat}{args:List AV}{bs:List (Nat × AO)}{base:Nat}{y:AV}{L:Upd}(_:FC P f args bs base y L):OI:=.c y L
def aF.k{P:Program}{k:Nat}{c:Code}{st Ag:St}{e:Ex}(_:aF P k c st e Ag)(n:Nat)(g:Gh):OI:=.k n g e Ag
def aC.k{P:Program}{k:Nat}{c:Code}{st Ag:St}{e:Ex}(_:aC P k c st e Ag)(n:Nat)(g:Gh):OI:=.k n g e Ag
def qI(ids:List Nat)(base:Nat)(x:AV):AV:=(mpA (bkI ids base) x).getD .any
def qM(f:Nat→Option Nat):List Nat→Mem→Upd
 | i::r,some o::M=>match mpO f o with
  | some q=>(i,q)::qM f r M
  | none=>[]
 | i::r,none::M=>qM f r M
 | _,_=>[]
def qS(ids:List Nat)(f:Nat→Option Nat)(args:List AV)(M:Mem):Upd:=blocks (upds [] (qM f ids M)) (clos (upds [] (qM f ids M)) (tE args))
theorem mq(ids:List Nat)(base:Nat){P:Program}{f:Nat}{Av:List AV}{M0 M1:Mem}{r:AV}(h:FMM P f Av M0 r M1)(hs:shown ids base (Av.map (qI ids base)) (qS ids (bkI ids base) (Av.map (qI ids base)) M0) M1 r=some (Av,M0,qI ids base r,(mF ids base ids M1).getD []):=by kernel_rfl):FC P f (Av.map (qI ids base)) (qS ids (bkI ids base) (Av.map (qI ids base)) M0) base (qI ids base r) ((mF ids base ids M1).getD []):=FMM.fc h hs
theorem FV.fi{f base:Nat}{fn:Func}{args:List AV}{y:AV}{L:Upd}{l:List Prop}(hf:Tryz.prog.funcs[f]? = some fn)(o:List OI)(g:aW (out l))(h:bPh base (aMp Tryz.prog tT EO 0 fn (cd fn) args [] (asg o))=some (y,L,l,[]):=by kernel_rfl)(hb:fn.body.isSome=true:=by kernel_rfl):FV Tryz.prog f args base y L:=FV.fin hf hb h g
theorem aC.fi{k:Nat}{c:Code}{st Ag:St}{e:Ex}(g:Gh)(o:List OI){l:List Prop}(gd:aW (out l))(h:yP k g (yJ Tryz.prog tT EO k 0 c st (asg o))=some (e,Ag,l,[]):=by kernel_rfl):aC Tryz.prog k c st e Ag:=aC.fin h gd
theorem FMM.fi(k:Nat)(g:Gh){f:Nat}{fn:Func}{args:List AV}{M M':Mem}{r:AV}{l:List Prop}(hf:Tryz.prog.funcs[f]? = some fn)(o:List OI)(gd:aW (out l))(h:bJf k g (aMp Tryz.prog tT EO 0 fn (cd fn) args M (asg o))=some (r,M',l,[]):=by kernel_rfl)(hb:fn.body.isSome=true:=by kernel_rfl)(hk:M.length=k:=by kernel_rfl):FMM Tryz.prog f args M r M':=FMM.fin hk hf hb h gd
theorem g0{a b:Int}(h:a<b):aW (out [(decide (a<b))=true]):=gc (eV h) gn
def N8:List Nat→List Nat
 | a::n::r=>List.range' a n++N8 r
 | _=>[]
abbrev gE:Gh:=⟨[],[],[],[]⟩
abbrev gZ(l:List Nat):Gh:=⟨N8 l,[],[],[]⟩
abbrev gI(l i:List Nat):Gh:=⟨N8 l,i,[],[]⟩
abbrev gN(l i:List Nat)(n:List (Nat × Nat)):Gh:=⟨N8 l,i,[],n⟩
abbrev rF(n:Nat):List OI:=List.replicate n (.b false)
abbrev rT(n:Nat):List OI:=List.replicate n (.b true)
abbrev pS(c:Code)(n:Nat)(l:List Nat):Code:=sub c (List.replicate n 1++l)
end
section
section
variable {P:Program} {k:Nat} {b:Code} {α:Type}
theorem aF.find(S:Nat→St)(R1:Nat→α→St)(R2:St)(e1 e2:Ex)(h1:e1 ≠ .normal)(h2:e2 ≠ .normal)(p:α→Bool)(l:List α)
  (hs:∀ (i:Nat) (x:α),l[i]? = some x→p x=false→aC P k b (S i) .normal (S (i+1)))
  (hq:∀ (i:Nat) (x:α),l[i]? = some x→p x=true→aC P k b (S i) e1 (R1 i x))
  (hx:aC P k b (S l.length) e2 R2) :
  (∃ i x,l[i]? = some x∧l.findIdx? p=some i∧p x=true∧aF P k b (S 0) e1 (R1 i x))∨(l.findIdx? p=none∧l.any p=false∧aF P k b (S 0) e2 R2):=by
 have key:∀ (r:List α) (i:Nat),l.drop i=r→i≤l.length→(∃ j x,l[i+j]? = some x∧r.findIdx? p=some j∧p x=true∧aF P k b (S i) e1 (R1 (i+j) x))∨(r.findIdx? p=none∧r.any p=false∧aF P k b (S i) e2 R2):=by
  intro r
  induction r with
  | nil =>
   intro i hd hi;have:i=l.length:=by have:=congrArg List.length hd;simp at this;omega
   subst this;exact .inr ⟨rfl,rfl,.exit hx h2⟩
  | cons x r ih =>
   intro i hd hi;have hl:l[i]? = some x:=by
    have:=congrArg (·[0]?) hd
    simpa using this
   have hlt:i<l.length:=(A2.1 hl).1;cases hp:p x with
   | true=>exact .inl ⟨0,x,by simpa using hl,by simp [List.findIdx?_cons,hp],hp,.exit (hq i x hl hp) h1⟩
   | false =>
    have Pb:l.drop (i+1)=r:=by
     have:=congrArg List.tail hd;simpa [List.tail_drop] using this
    rcases ih (i+1) Pb (by omega) with ⟨j,y,q1,q2,q3,q4⟩ | ⟨q1,q2,q3⟩
    ·refine .inl ⟨j+1,y,by rw [← q1];congr 1;omega,by simp [List.findIdx?_cons,hp,q2],q3,?_⟩
     rw [show i+(j+1)=i+1+j by omega]
     exact .step (hs i x hl hp) q4
    ·exact .inr ⟨by simp [List.findIdx?_cons,hp,q1],by simp [hp,q2],.step (hs i x hl hp) q3⟩
 rcases key l 0 (by simp) (Nat.zero_le _) with ⟨j,x,q1,q2,q3,q4⟩ | q
 ·exact .inl ⟨j,x,by simpa using q1,q2,q3,by simpa using q4⟩
 ·exact .inr q
end
def bI{α:Type}(p:α→Bool)(l:List α):Int:=match l.findIdx? p with
 | some i=>(i:Int)
 | none => -1
theorem eZ{α:Type}{p:α→Bool}{l:List α}{i:Nat}(h:l.findIdx? p=some i):bI p l=(i:Int):=by unfold bI;rw [h]
theorem fA{α:Type}{p:α→Bool}{l:List α}(h:l.findIdx? p=none):bI p l = -1:=by unfold bI;rw [h]
theorem iU{α:Type}(p:α→Bool)(l:List α):decide (bI p l ≥ 0)=l.any p:=by
 unfold bI;cases h:l.findIdx? p with
 | none =>
  have:l.any p=false:=by simpa using h
  simp [this]
 | some i =>
  have:l.any p=true:=by
   have h2:(l.findIdx? p).isSome=true:=by rw [h];rfl
   rwa [List.findIdx?_isSome] at h2
  simp [this]
def uni(k:Nat)(L:Lqq):Prop:=∀ x∈L,x.length=k
theorem aBe{k:Nat}{x:List Int}{L:Lqq}(h:uni k (x::L)):uni k L:=fun y hy=>h y (B7 _ hy)
theorem aGy{k:Nat}:∀ {L:Lqq} (i:Nat),uni k L→(L.flatten).drop (i*k)=(L.drop i).flatten
 | [],i,_=>by simp
 | x::L,0,_=>by simp
 | x::L,i+1,h=>by
  have hx:=h x (by simp)
  rw [uZ,List.drop_succ_cons,← aGy i (aBe h),List.drop_append];rw [List.drop_eq_nil_of_le (by rw [hx,aDl];omega),List.nil_append]
  congr 1
  rw [hx,aDl];omega
theorem aTa{k:Nat}:∀ {L:Lqq} (i:Nat),uni k L→(L.flatten).take (i*k)=(L.take i).flatten
 | [],i,_=>by simp
 | x::L,0,_=>by simp
 | x::L,i+1,h=>by
  have hx:=h x (by simp)
  rw [uZ,List.take_succ_cons,uZ,← aTa i (aBe h),List.take_append];rw [List.take_of_length_le (by rw [hx,aDl];omega)]
  congr 2
  rw [hx,aDl];omega
theorem oH{k:Nat}:∀ {L:Lqq},uni k L→(L.flatten).length=L.length*k
 | [],_=>by simp
 | x::L,h=>by rw [uZ,fK,oH (aBe h),h x (by simp),pY,aDl];omega
theorem bOt{k i:Nat}{L:Lqq}{x:List Int}(h:uni k L)(hx:L[i]? = some x):((L.flatten).drop (i*k)).take k=x:=by
 have hl:x.length=k:=h x (Bf hx);obtain ⟨hi,he⟩:=A2.1 hx;rw [aGy i h,aWm hi,uZ,he,List.take_append_of_le_length (by omega),List.take_of_length_le (by omega)]
theorem nK{k i:Nat}{L:Lqq}{x:List Int}(h:uni k L)(hx:L[i]? = some x):i*k+k≤(L.flatten.map aA).length:=by
 obtain ⟨hi,_⟩:=A2.1 hx;rw [A8,oH h];have:(i+1)*k≤L.length*k:=Nat.mul_le_mul_right _ hi;rw [aDl] at this;exact this
theorem lV{k i:Nat}{L:Lqq}{x:List Int}(h:uni k L)(hx:L[i]? = some x):some (PV.agg (((L.flatten.map aA).drop (i*k)).take k))=some (.agg (x.map aA)):=by
 rw [← List.map_drop,← List.map_take,bOt h hx]
theorem nL{k i f:Nat}{L:Lqq}{x:List Int}{y:Int}(h:uni k L)(hx:L[i]? = some x)(hy:x[f]? = some y):(L.flatten.map aA)[i*k+f]? = some (aA y):=by
 have hl:x.length=k:=h x (Bf hx);have hf:f<k:=by rw [← hl];exact (A2.1 hy).1
 have:=congrArg (·[f]?) (bOt h hx)
 simp only [List.getElem?_take,hf,if_true,List.getElem?_drop] at this
 rw [B6,this,hy];rfl
theorem vB{k i:Nat}{L:Lqq}{x:List Int}(h:uni k L)(hi:i<L.length)(hx:x.length=k):((L.flatten.map aA).take (i*k)++x.map aA++(L.flatten.map aA).drop (i*k+k))=((L.set i x).flatten.map aA):=by
 have e:i*k+k=(i+1)*k:=by rw [aDl]
 rw [← List.map_take,← List.map_drop,← eE,← eE,aTa i h,e,aGy (i+1) h];rw [List.set_eq_take_append_cons_drop,if_pos hi,aDi,uZ,List.append_assoc]
theorem aTb{k i:Nat}{L:Lqq}{x:List Int}(h:uni k L)(hx:x.length=k):uni k (L.set i x):=fun y hy=>by
 rcases List.mem_or_eq_of_mem_set hy with h1 | rfl
 ·exact h y h1
 ·exact hx
theorem len2{x:List Int}(h:x.length=2):∃ a b,x=[a,b]:=by
 match x,h with
 | [a,b],_=>exact ⟨a,b,rfl⟩
theorem H8{x:List Int}(h:x.length=4):∃ a b c d,x=[a,b,c,d]:=by
 match x,h with
 | [a,b,c,d],_=>exact ⟨a,b,c,d,rfl⟩
theorem bOu{k:Nat}{L:Lqq}{i:Int}{x:List Int}(hk:0<k)(hu:uni k L)(h0:0≤i)(h:L[i.toNat]? = some x):0≤i∧i<(L.length:Int)∧i.toNat*k<(L.flatten.map aA).length:=by
 have h1:=nK hu h;obtain ⟨h2,_⟩:=A2.1 h;exact ⟨h0,by omega,by omega⟩
theorem aM{n:Nat}(h:n≤1000000):inR ((n:Nat):Int):=by unfold inR;omega
theorem aX{α:Type}{l:List α}{i:Nat}{x:α}(h:l[i]? = some x):i<l.length:=(A2.1 h).1
abbrev small(n:Nat):Prop:=n<1000000
theorem gfl{k i:Nat}{L:Lqq}{x:List Int}{l:List Prop}(hu:uni k L)(h:L[i]? = some x)(g:aW (out l))(hk:0<k:=by decide):aW (out ((some (PV.agg (((L.flatten.map aA).drop (i*k)).take k))=some (.agg (x.map aA)))::(i*k+k≤(L.flatten.map aA).length)::(0≤(i:Int)∧(i:Int)<(L.length:Int)∧(i:Int).toNat*k<(L.flatten.map aA).length)::l)):=gc (lV hu h) (gc (nK hu h) (gc (bOu hk hu (hZ _) (by rwa [aOh])) g))
theorem gfz{k:Nat}{z:Int}{L:Lqq}{x:List Int}{l:List Prop}(hu:uni k L)(h0:0≤z)(h:L[z.toNat]? = some x)(g:aW (out l))(hk:0<k:=by decide):aW (out ((some (PV.agg (((L.flatten.map aA).drop (z.toNat*k)).take k))=some (.agg (x.map aA)))::(z.toNat*k+k≤(L.flatten.map aA).length)::(0≤z∧z<(L.length:Int)∧z.toNat*k<(L.flatten.map aA).length)::l)):=gc (lV hu h) (gc (nK hu h) (gc (bOu hk hu h0 h) g))
end
end KV
end Go.Proofs
section
namespace Go.Proofs
open Go.ChangeShapes Go.WideShapes Go.ChangeAt Go.RowKit
namespace KV
open Tryz
variable {P:Program} {W W':World}

def CxW(W:World):Cx:={ ι:=fun _=>none,κ:=fun _=>0,F:=fun b=>b<W.heap.size }
theorem bYa(W:World):aO P (CxW W) [] W:=⟨fun i ty n cs h=>by simp at h,fun i ty cs h=>by simp at h,fun i es cl h=>by simp at h,fun i i' o o' b h=>by simp at h,fun i o b h=>by simp at h,fun b h=>h,fun i o b h=>by simp at h⟩

theorem FV.law{f:Nat}{args:List AV}{us:List Value}(h:∀ base:Nat,FV P f args base (.p (blP true)) [])(hn:iL args=true)(hus:cG (CxW W) [] W args us):Calls P f us.toArray W fun e W'=>e = .returned (.bool true)∧Below W.heap.size W W':=by
 have hc:=(h 0).fc (bs:=[]) hn [] (fun p hp=>by simp at hp) rfl
 refine (callsIn_wide (n:=0)).1 ((hc (fun j _=>by rw [fE];cases j <;> rfl) (CxW W) W us hus (bYa W) 0).mono ?_)
 rintro e w' ⟨u,rfl,C',hF,hM,hr⟩;cases hr with
 | p _ _ h =>
  cases h;exact ⟨rfl,hF.os,hF.tape,hF.out,hF.size,fun b hb=>hF.keep b hb fun id o ho=>by simp at ho⟩

section
variable {H:Type} {enc:TypeId × Value→H}
theorem sK(hl:laidOutB P=true)(hb:Below W.heap.size W W'):∀ {ts:List TypeId} {vs:List Value} {ds:List (DataW H)} {ps:List MemPlace},(ts.all fun t=>P.readableRec t && decide (t<P.types.size))=true→DataW.TrodAll enc P W 0 (fun _=>true) true ts vs ds ps→(∀ x∈ps,x.block<W.heap.size) →
  DataW.TrodAll enc P W' 0 (fun b=>decide (b<W.heap.size)) true ts vs ds ps
 | [],[],[],_,_,h,_=>h
 | t::ts,v::vs,d::ds,ps,hr,⟨p,q,h1,h2,e⟩,hlt=>by
  rw [List.all_cons,Bg,Bg,decide_eq_true_eq] at hr
  subst e;exact ⟨p,q,Below.trod hl hr.1.1 hr.1.2 h1 hb (fun x hx=>hlt x (mD _ hx)),sK hl hb hr.2 h2 (fun x hx=>hlt x (aAz _ hx)),rfl⟩
 | [],_::_,_,_,_,h,_=>h.elim
 | _::_,[],_,_,_,h,_=>h.elim
 | [],[],_::_,_,_,h,_=>h.elim
 | _::_,_::_,[],_,_,h,_=>h.elim

theorem aUu{a:Addr}{v:Value}(h:W.cell? (a.add 0)=some v):a=⟨a.block,a.off,none⟩:=by
 obtain ⟨b,o,s⟩:=a;cases s with
 | none=>rfl
 | some x =>
  unfold World.cell? at h
  simp only [Addr.add,if_true] at h
  split at h <;> simp at h

theorem aDu{t e:TypeId}{k:IntKind}{v:Value}{d:DataW H}{ps:List MemPlace}{base:Nat}(ht:P.underlying t=some (.slice e))(he:P.underlying e=some (.int k))(hc:P.cellsOf e=1)(hok:Value.okWide P W .any base t v)
  (h:DataW.Trod enc P W 0 (fun _=>true) true t v d ps):∃ l:List Int,bW (CxW W).F W (.sl l.length (l.map fun n => .v (.int k n))) v∧(∀ n∈l,(Lit.int k n).wf=true)∧l.length≤maxLen:=by
 obtain ⟨a0,len,cap,rfl⟩:=okWide_slice ht hok;obtain ⟨fuel,hf⟩:=h
 rcases open_ints ht he hc hf with ⟨hcs,hx⟩ | ⟨a,Sm,Em,zs,hcs,_,hl,hm,hz,hx,hcell,hwz⟩
 ·simp [Value.cells] at hcs
  obtain ⟨rfl,rfl,rfl⟩:=hcs;exact ⟨[],.sl 0 [] none 0 (fun _=>undef) (cP _) (Nat.zero_le _) (fun i h=>by simp at h) (fun i h=>by simp at h) (fun i h=>by simp at h),fun n h=>by simp at h,Nat.zero_le _⟩
 ·simp [Value.cells] at hcs
  obtain ⟨rfl,rfl,rfl⟩:=hcs;simp only [if_true] at hz
  have hlen:(zs.take len).length=len:=by rw [nI];omega
  refine ⟨zs.take len,?_,fun n hn=>hwz n (List.mem_of_mem_take hn),by rw [hlen];omega⟩
  rw [hlen];refine .sl len _ (some a) cap (fun i => .int k (zs.getD i 0)) hl hm (fun i hi => ?_) (fun i hi => ?_) (fun i hi=>rfl)
  ·have B2:i<len:=by rw [A8,hlen] at hi;exact hi
   have q1:=aUu (hcell 0 (by omega))
   have q2:=hcell i (by omega)
   rw [q1,Addr.add_lit] at q2
   exact ⟨a.block,a.off,by rw [← q1],World.block_lt_of_cell? W ⟨a.block,a.off+i,none⟩ q2,q2⟩
  ·have B2:i<len:=by rw [A8,hlen] at hi;exact hi
   simp only [kD,List.getElem_take];have:zs.getD i 0=zs[i]'(by omega):=by rw [Bj,Ap (by omega)];rfl
   rw [this];exact .v _
end
end KV
end Go.Proofs
end
section
namespace Go.Proofs
open Go.ChangeShapes Go.WideShapes Go.ChangeAt Go.RowKit Go.Deep
namespace KV
open Tryz
section
variable {P:Program} {W W':World} {H:Type} {enc:TypeId × Value→H}
end
end KV
end Go.Proofs
end
namespace Go.Proofs
namespace KV
open Tryz
section
theorem FMM.shutFn{P:Program}{f F2:FuncId}{args:List AV}{ty:Nat}{cs:List AV}{xs:List PV}(h:FMM P f args [] (.fn F2 [] [.ptr 0 0]) [some (.box ty cs)])(e:pvs cs=some xs):FMM P f args [] (.p (.fn F2 [] [.rp xs 0])) [some .dead]:=fun C w us hus hM n=>by
 refine (h C w us hus hM n).mono ?_;rintro ex w' ⟨u,rfl,C1,hF,Bd,hr⟩;have ho:([some (.box ty cs)]:Mem)[0]? = some (some (.box ty cs)):=rfl;refine ⟨u,rfl,C1.close 0 true,hF.trans (cE true ho rfl),lC Bd true ho rfl,.p _ _ ?_⟩;cases hr with
 | fn _ _ _ us vs h1 h2 h3 h4 =>
  refine .fn _ _ _ _ _ h1 h2 (fun i hi=>by simp at hi) (fun i hi => ?_)
  obtain rfl:i=0:=by simpa using hi
  have q:=h4 0 (by simp)
  show bW _ _ (.rp xs 0) (vs.getD 0 undef);change Rep C1 _ _ (.ptr 0 0) (vs.getD 0 undef) at q
  generalize vs.getD 0 undef=v at q
  cases q with
  | ptr _ _ _ h0 ha h hp =>
   obtain ⟨b,rfl,hb⟩:=h _ ho rfl;obtain ⟨b',arr,Aj,q1,q2,q3,q4⟩:=Bd.box _ _ _ ho;rw [hb] at Aj
   cases Aj;obtain ⟨p1,p2⟩:=uX (C:=C1) (M:=[some (.box ty cs)]) (w:=w') cs xs e;exact .rp xs 0 b 0 (fun j=>arr.getD j undef) (fun i hi=>⟨.inr ⟨rfl,hb⟩,by rw [fE];exact bH q1 (by omega)⟩)
    (fun i hi=>(p2 i (by omega) hi _ (q3 i (by omega))).mono (fun _ hb => .inl hb) fun _ _=>rfl) (fun i hi=>q4 i (by omega))
theorem FV.shutFn{P:Program}{f F2:FuncId}{args:List AV}{ty base:Nat}{cs:List AV}{xs:List PV}(h:FMM P f args [] (.fn F2 [] [.ptr 0 0]) [some (.box ty cs)])(e:pvs cs=some xs):FV P f args base (.p (.fn F2 [] [.rp xs 0])) []:=⟨_,_,h.shutFn e,rfl⟩
end
section
variable {n:Int}{l:Lqq}{w:List Int}{i j k on pn qn base:Nat}

noncomputable abbrev aOz:Code:=pS (cd Tryz.f143) 5 [0,1,0,0]
theorem bQv:FMM Tp 192 [(pI n)] [] (.fn 193 [] [(.ptr 0 0)]) [some (.box 3 [(pI n)])]:=FMM.fi 0 ⟨[],[0],[],[]⟩ func192 [] gn
theorem aBl(n:Int){base:Nat}:FV Tp 192 [.p (aA n)] base (.p (.fn 193 [] [.rp [aA n] 0])) []:=FV.shutFn bQv rfl
theorem bQw:FV Tp 193 [(.p (PV.rp [(aA n)] 0))] base (pI n) []:=FV.fi func193 [.x (aA n)] (gr (aA n) gn)
theorem bQx(n:Int){base:Nat}:FV Tp 193 [.p (.rp [aA n] 0)] base (pI n) []:=bQw
def qJ(n:Int)(l:Lqq)(w:List Int)(i on:Nat)(oc:List PV):St:=⟨fr 98 [(0,(pI n)),(2,(.p (aG w))),(6,(.p dY)),(7,(.fn 192 [] [])),(8,(.own 0)),(14,(.p (fS l))),(15,(pI (l.length:Int))),(16,(pI (i:Int)))],[some (.row 263 on oc)]⟩
def qK(n:Int)(w:List Int)(k pn:Nat)(pc:List PV):St:=⟨fr 98 [(2,(.p (aG w))),(6,(.p dY)),(7,(.fn 192 [] [])),(8,(.own 0)),(52,(pI n)),(53,(pI (k:Int)))],[some (.row 263 pn pc)]⟩
def qL(w:List Int)(j qn:Nat)(qc:List PV):St:=⟨fr 98 [(6,(.p dY)),(7,(.fn 192 [] [])),(8,(.own 0)),(76,(.p (aG w))),(77,(pI (w.length:Int))),(78,(pI (j:Int)))],[some (.row 263 qn qc)]⟩
theorem bQy{Aw Mo:Nat}{Mp:List PV}{Tk Mq:Nat}{Mr:List PV}{Tl Ms:Nat}{Mt:List PV}(hl0:aF Tp 0 (sub (cd Tryz.f143) cf) (qJ n l w 0 0 []) (.exit 0) (qJ n l w Aw Mo Mp))(hl1:aF Tp 0 (sub (cd Tryz.f143) c6) (qK n w 0 Mo Mp) (.exit 2) (qK n w Tk Mq Mr))(Bu:aF Tp 0 aOz (qL w 0 Mq Mr) (.exit 4) (qL w Tl Ms Mt)):FV Tp 143 [(pI n),(.p (fS l)),(.p (aG w))] base (.own base) [(base,(.row 263 Ms Mt))]:=FV.fi func143 [hl0.k 10 (gN bt [0] [(8,263)]),hl1.k 4 (gI aw [0]),Bu.k 4 (gI [0,6,9,67,79,18] [0])] (gc Bu.code (gc hl1.code (gc hl0.code gn)))
theorem aXx{oc:List PV}{Aa Ab Ac Ad:Int}{i' Ru:Nat}{Rv:List PV}(h0:(i:Int)<(l.length:Int))(h1:l[i]? = some [Aa,Ab,Ac,Ad])(h2:uni 4 l)(h3:inR (Ab+1))(h4:inR ((0:Int)-Ac))(h5:[(aA 0),(aA (i:Int)),(aA Aa),(aA (Ab+1)),(PV.fn 193 [] [(PV.rp [(aA Ad)] 0)]),(aA 1),(aA (i:Int)),(aA (Ab+1)),(aA Aa),(PV.fn 193 [] [(PV.rp [(aA ((0:Int)-Ac))] 0)])].length=2*5∧on+2≤1000000)(h6:da i)(Ai:i'=(i+1))(Cs:Ru=(on+2))(Ct:Rv=(oc++[(aA 0),(aA (i:Int)),(aA Aa),(aA (Ab+1)),(PV.fn 193 [] [(PV.rp [(aA Ad)] 0)]),(aA 1),(aA (i:Int)),(aA (Ab+1)),(aA Aa),(PV.fn 193 [] [(PV.rp [(aA ((0:Int)-Ac))] 0)])])):aC Tp 0 (sub (cd Tryz.f143) cf) (qJ n l w i on oc) .normal (qJ n l w i' Ru Rv):=by
 subst Ai Cs Ct;have k1:=fk 2 (aBl Ad) rfl;have k2:=fk 10 (aBl ((0:Int)-Ac)) rfl;exact aC.fi (gI bt [19]) [bT,.x (.agg [(aA Aa),(aA Ab),(aA Ac),(aA Ad)]),k1.o,k2.o] (gc h6 (gc h5 (gc k2 (gc h4 (gc h3 (gc k1 (gc h3 (gfl h2 h1 (g0 h0)))))))))
theorem aXy{oc:List PV}(h0:(l.length:Int)≤(i:Int)):aC Tp 0 (sub (cd Tryz.f143) cf) (qJ n l w i on oc) (.exit 0) (qJ n l w i on oc):=aC.fi (gI bt [0]) [bF] (gc (bA h0) gn)
theorem aXz{pc:List PV}{k' Rw:Nat}{Rx:List PV}(h0:(k:Int)<n)(h1:da k)(h2:[(aA 2),(aA (k:Int)),(aA (k:Int)),(aA (((k+1):Nat):Int)),(PV.fn 193 [] [(PV.rp [(aA 9)] 0)]),(aA 3),(aA (k:Int)),(aA (((k+1):Nat):Int)),(aA (k:Int)),(PV.fn 193 [] [(PV.rp [(aA 0)] 0)])].length=2*5∧pn+2≤1000000)(Jt:k'=(k+1))(J1:Rw=(pn+2))(J2:Rx=(pc++[(aA 2),(aA (k:Int)),(aA (k:Int)),(aA (((k+1):Nat):Int)),(PV.fn 193 [] [(PV.rp [(aA 9)] 0)]),(aA 3),(aA (k:Int)),(aA (((k+1):Nat):Int)),(aA (k:Int)),(PV.fn 193 [] [(PV.rp [(aA 0)] 0)])])):aC Tp 0 (sub (cd Tryz.f143) c6) (qK n w k pn pc) .normal (qK n w k' Rw Rx):=by
 subst Jt J1 J2;have k1:=fk 1 (aBl 9) rfl;have k2:=fk 1 (aBl 0) rfl;exact aC.fi (gI aw [2]) [bT,k1.o,k2.o] (gc h1 (gc h2 (gc k2 (gc h1 (gc k1 (gc h1 (g0 h0)))))))
theorem aYa{pc:List PV}(h0:n≤(k:Int)):aC Tp 0 (sub (cd Tryz.f143) c6) (qK n w k pn pc) (.exit 2) (qK n w k pn pc):=aC.fi (gI aw [0]) [bF] (gc (bA h0) gn)
theorem aYb{qc:List PV}{Db:Int}{j' Ry:Nat}{Rz:List PV}(h0:(j:Int)<(w.length:Int))(h1:w[j]? = some Db)(h2:da j)(h3:inR ((0:Int)-Db))(h4:[(aA 4),(aA (j:Int)),(aA (((j+1):Nat):Int)),(aA (j:Int)),(PV.fn 193 [] [(PV.rp [(aA ((0:Int)-Db))] 0)])].length=1*5∧qn+1≤1000000)(Dx:j'=(j+1))(J3:Ry=(qn+1))(J4:Rz=(qc++[(aA 4),(aA (j:Int)),(aA (((j+1):Nat):Int)),(aA (j:Int)),(PV.fn 193 [] [(PV.rp [(aA ((0:Int)-Db))] 0)])])):aC Tp 0 aOz (qL w j qn qc) .normal (qL w j' Ry Rz):=by
 subst Dx J3 J4;have k1:=fk 1 (aBl ((0:Int)-Db)) rfl;exact aC.fi (gI [0,6,9,67,79,18] [2]) [bT,.x (aA Db),k1.o] (gc h2 (gc h4 (gt ([(aA 4),(aA (j:Int)),(aA (((j+1):Nat):Int)),(aA (j:Int)),(PV.fn 193 [] [(PV.rp [(aA ((0:Int)-Db))] 0)])].length=5) (by first | decide | simp) (gc k1 (gc h3 (gc h2 (gc (atm aA h1) (gc (ixn aA h1) (g0 h0)))))))))
theorem aYc{qc:List PV}(h0:(w.length:Int)≤(j:Int)):aC Tp 0 aOz (qL w j qn qc) (.exit 4) (qL w j qn qc):=aC.fi (gI [0,6,9,67,79,18] [0]) [bF] (gc (bA h0) gn)
end
section
section
variable {l:Lqq} {j i:Nat} {xs:List Int} {v:Int}
end
end
end KV
end Go.Proofs
section
namespace Go.Proofs
open Go.RowKit
namespace KV
open Tryz
variable {P:Program} {C C0:Cx} {M M0:Mem} {w w0:World}

def kJ(w:World)(b:Nat):Prop:=∃ o:Obj,w.heap[b]? = some o∧o.isCells=true
theorem tO{b o:Nat}{v:Value}(h:w.cell? ⟨b,o,none⟩=some v):kJ w b:=cells_of_cell h
theorem eI{b ty:Nat}{arr:Array Value}{fr:Nat × Nat}(h:w.heap[b]? = some (.cells arr ty fr)):kJ w b:=⟨_,h,rfl⟩

mutual
def nmP:PV→Bool
 | .v _=>true
 | .sl _ cs=>iA cs
 | .agg cs=>iA cs
 | .mp _=>false
 | .rp cs _=>iA cs
 | .fn _ a b=>iA a && iA b
def iA:List PV→Bool
 | []=>true
 | x::r=>nmP x && iA r
end
theorem kQ:∀ {l:List PV},iA l=true→∀ (i:Nat) (h:i<l.length),nmP l[i]=true
 | [],_,i,h=>by simp at h
 | x::r,hl,i,h=>by
  rw [iA,Bg] at hl
  cases i with
  | zero=>exact hl.1
  | succ i=>exact kQ hl.2 i (by simpa using h)
theorem aBm{α:Type}(g:α→PV)(h:∀ x,nmP (g x)=true):∀ l:List α,iA (l.map g)=true
 | []=>rfl
 | x::r=>by rw [gT,iA,h,aBm g h r];rfl
mutual
def nmA:AV→Bool
 | .p x=>nmP x
 | .rp cs _=>iA cs
 | .agg l=>nmL l
 | .tup l=>nmL l
 | .fn _ a b=>nmL a && nmL b
 | _=>true
def nmL:List AV→Bool
 | []=>true
 | x::r=>nmA x && nmL r
end
theorem tP:∀ {l:List AV},nmL l=true→∀ (i:Nat) (h:i<l.length),nmA l[i]=true
 | [],_,i,h=>by simp at h
 | x::r,hl,i,h=>by
  rw [nmL,Bg] at hl
  cases i with
  | zero=>exact hl.1
  | succ i=>exact tP hl.2 i (by simpa using h)
def nmM:Mem→Bool
 | []=>true
 | some (.row _ _ cs)::r=>iA cs && nmM r
 | some (.box _ l)::r=>nmL l && nmM r
 | _::r=>nmM r
theorem aBn:∀ {m:Mem},nmM m=true→(∀ (i ty n:Nat) (cs:List PV),m[i]? = some (some (.row ty n cs))→iA cs=true)∧∀ (i ty:Nat) (l:List AV),m[i]? = some (some (.box ty l))→nmL l=true
 | [],_=>⟨fun i ty n cs h=>by simp at h,fun i ty l h=>by simp at h⟩
 | x::r,hm=>by
  have hr:nmM r=true:=by
   cases x with
   | none=>exact hm
   | some o=>cases o <;> simp [nmM] at hm <;> first | exact hm.2 | exact hm
  obtain ⟨h1,h2⟩:=aBn hr;refine ⟨fun i ty n cs h => ?_,fun i ty l h => ?_⟩
  ·cases i with
   | zero=>simp at h;subst h;simp [nmM] at hm;exact hm.1
   | succ i=>exact h1 i ty n cs (by simpa using h)
  ·cases i with
   | zero=>simp at h;subst h;simp [nmM] at hm;exact hm.1
   | succ i=>exact h2 i ty l (by simpa using h)
theorem bW.shrink{F F':Nat→Prop}{x:PV}{u:Value}(h:bW F w x u)(hF:∀ b,F b→kJ w b→F' b)(hm:nmP x=true):bW F' w x u:=by
 induction h with
 | v x=>exact .v x
 | sl n cs p cap us h1 h2 h3 _ h5 ih =>
  rw [nmP] at hm
  refine .sl n cs p cap us h1 h2 (fun i hi => ?_) (fun i hi=>ih i hi (kQ hm i hi)) h5
  obtain ⟨b,o,hp,hb,hc⟩:=h3 i hi;exact ⟨b,o,hp,hF b hb (tO hc),hc⟩
 | agg cs vs h0 h1 _ ih =>
  rw [nmP] at hm
  exact .agg cs vs h0 h1 fun i hi=>ih i hi (kQ hm i hi)
 | mp=>simp [nmP] at hm
 | rp cs off b o us h1 _ h3 ih =>
  rw [nmP] at hm
  exact .rp cs off b o us (fun i hi=>⟨hF b (h1 i hi).1 (tO (h1 i hi).2),(h1 i hi).2⟩) (fun i hi=>ih i hi (kQ hm i hi)) h3
 | fn f cs ds us vs h1 h2 _ _ G5 G6 =>
  rw [nmP,Bg] at hm
  exact .fn f cs ds us vs h1 h2 (fun i hi=>G5 i hi (kQ hm.1 i hi)) fun i hi=>G6 i hi (kQ hm.2 i hi)
theorem Rep.shrink{F':Nat→Prop}{x:AV}{u:Value}(h:Rep C M w x u)(hF:∀ b,C.F b→kJ w b→F' b)(hm:nmA x=true):Rep ⟨C.ι,C.κ,F',[]⟩ M w x u:=by
 induction h with
 | p x u h=>exact .p x u (h.shrink hF (by simpa [nmA] using hm))
 | any u=>exact .any u
 | kb b=>exact .kb b
 | yld l=>exact .yld l
 | own id u h0 ha h=>exact .own id u h0 ha h
 | arr id off n u h0 ha h=>exact .arr id off n u h0 ha h
 | ptr id off u h0 ha h hp=>exact .ptr id off u h0 ha h hp
 | mp id u h0 ha h=>exact .mp id u h0 ha h
 | pa id q u h0 ha h=>exact .pa id q u h0 ha h
 | rp cs off b o us h1 h2 h3 =>
  have B8:iA cs=true:=by simpa [nmA] using hm
  exact .rp cs off b o us (fun i hi=>⟨hF b (h1 i hi).1 (tO (h1 i hi).2),(h1 i hi).2⟩) (fun i hi=>(h2 i hi).shrink hF (kQ B8 i hi)) h3
 | agg cs vs h0 h1 _ ih =>
  have B8:nmL cs=true:=by simpa [nmA] using hm
  exact .agg cs vs h0 h1 fun i hi=>ih i hi (tP B8 i hi)
 | tup cs vs h1 _ ih =>
  have B8:nmL cs=true:=by simpa [nmA] using hm
  exact .tup cs vs h1 fun i hi=>ih i hi (tP B8 i hi)
 | fn f cs ds us vs h1 h2 _ _ G5 G6 =>
  have B8:nmL cs=true∧nmL ds=true:=by simpa [nmA] using hm
  exact .fn f cs ds us vs h1 h2 (fun i hi=>G5 i hi (tP B8.1 i hi)) fun i hi=>G6 i hi (tP B8.2 i hi)

def xZ(M:Mem):Prop:=(∀ (i:Nat) (es:List (Value × PV)) (cl:Nat),M[i]? ≠ some (some (.mp es cl)))∧aNd M
def eQ:Mem→Bool
 | []=>true
 | some (.pk _ _ _ _)::_=>false
 | some (.mp _ _)::_=>false
 | _::r=>eQ r
theorem dM:∀ {m:Mem},eQ m=true→xZ m
 | [],_=>⟨fun i es cl h=>by simp at h,fun i o h=>by simp at h⟩
 | none::r,hm=>by
  obtain ⟨h1,h2⟩:=dM (m:=r) hm;refine ⟨fun i es cl h => ?_,fun i o h => ?_⟩
  ·cases i with
   | zero=>simp at h
   | succ i=>exact h1 i es cl (by simpa using h)
  ·cases i with
   | zero=>simp at h
   | succ i=>exact h2 i o (by simpa using h)
 | some x::r,hm=>by
  have hr:eQ r=true∧x.isPk=false∧∀ es cl,x ≠ .mp es cl:=by
   cases x with
   | pk=>simp [eQ] at hm
   | mp=>simp [eQ] at hm
   | _=>exact ⟨by simpa [eQ] using hm,rfl,fun _ _ e=>by cases e⟩
  obtain ⟨h1,h2⟩:=dM (m:=r) hr.1;refine ⟨fun i es cl h => ?_,fun i o h => ?_⟩
  ·cases i with
   | zero=>simp at h;exact hr.2.2 _ _ h
   | succ i=>exact h1 i es cl (by simpa using h)
  ·cases i with
   | zero=>simp at h;rw [← h];exact hr.2.1
   | succ i=>exact h2 i o (by simpa using h)

theorem tQ{M':Mem}{W:World}(hn:xZ M')(hq:nmM M'=true)(hF:∀ b,C.F b→b<w.heap.size){C':Cx}(hM:aO P C' M' W)(f:Fr C M w C' M' W) :
  ∃ C'',aO P C'' M' W∧Fr C M w C'' M' W∧(∀ b,C''.F b→b<w.heap.size∨kJ W b):=by
 refine ⟨⟨C'.ι,C'.κ,fun b=>C'.F b∧(b<w.heap.size∨kJ W b),[]⟩,⟨fun i ty n cs hm => ?_,fun i ty cs hm => ?_,fun i es cl hm=>absurd hm (hn.1 _ _ _),hM.inj,fun i o b ho hl hb hf=>hM.nF i o b ho hl hb hf.1,fun b hb=>hM.Fs b hb.1,hM.lt⟩,
  ⟨f.os,f.tape,f.out,f.size,f.keep,f.ids,f.row,f.liv,f.new,fun b hb=>⟨f.F1 b hb,.inl (hF b hb)⟩,fun b hb=>f.F2 b hb.1⟩,fun b hb=>hb.2⟩
 ·rcases hM.row _ _ _ _ hm with h4 | ⟨b,arr,inf,q0,q1,q2,q3,q4,q5,q6,q7,q8⟩
  ·exact .inl h4
  ·exact .inr ⟨b,arr,inf,q0,q1,q2,q3,q4,q5,q6,fun j hj=>(q7 j hj).shrink (fun b hb hs=>⟨hb,.inr hs⟩) (kQ ((aBn hq).1 _ _ _ _ hm) j hj),q8⟩
 ·obtain ⟨b,arr,q0,q1,q2,q3,q4⟩:=hM.box _ _ _ hm
  exact ⟨b,arr,q0,q1,q2,fun j hj=>(q3 j hj).shrink (fun b hb hs=>⟨hb,.inr hs⟩) (tP ((aBn hq).2 _ _ _ hm) j hj),q4⟩

def aYe(P:Program)(C:Cx)(M:Mem)(w:World)(M':Mem)(W:World):Prop:=∃ C',aO P C' M' W∧Fr C M w C' M' W

theorem iJ{W:World}{b:Nat}{o:Obj}(h:W.heap[b]? = some o)(ho:o.isCells=false):¬ kJ W b:=fun ⟨o',h',hc⟩=>by rw [h] at h';cases h';rw [ho] at hc;cases hc

theorem aYe.own{M':Mem}{W W':World}{row:Option Nat}(hn:xZ M')(hq:nmM M'=true)(hF:∀ b,C.F b→b<w.heap.size)(h:aYe P C M w M' W)(hg:W.grownBy W' row)
  (hr:∀ r,row=some r→w.heap.size≤r∧∃ o:Obj,W.heap[r]? = some o∧o.isCells=false):aYe P C M w M' W':=by
 obtain ⟨C1,h1,h2⟩:=h;obtain ⟨C',hM,f,hS⟩:=tQ hn hq hF h1 h2;have hsame:∀ b,b<W.heap.size→(b<w.heap.size∨kJ W b)→W'.heap[b]? = W.heap[b]? := fun b hb hd=>hg.block b hb (fun e=>by
  obtain ⟨q1,o,q2,q3⟩:=hr b e.symm
  rcases hd with hd | hd
  ·omega
  ·exact iJ q2 q3 hd)
 have hFz:∀ b,C'.F b→W'.heap[b]? = W.heap[b]? := fun b hb=>hsame b (hM.Fs b hb) (hS b hb)
 have hL:Le C' C' M' M' W W':=⟨fun _ o h=>⟨o,h⟩,fun _ _ _ _ _ cs h=>⟨cs,h⟩,fun _ o h o' h' hl=>by rw [h] at h';cases h';exact ⟨hl,rfl,rfl⟩,fun _ h=>h,hFz⟩
 refine ⟨C',⟨fun i ty n cs hm => ?_,fun i ty cs hm => ?_,fun i es cl hm=>absurd hm (hn.1 _ _ _),hM.inj,hM.nF,fun b hb=>B5 (hM.Fs b hb) hg.size,fun i o b ho hl hb=>B5 (hM.lt i o b ho hl hb) hg.size⟩,
  ⟨hg.os.trans f.os,hg.tape.trans f.tape,hg.output.trans f.out,fL f.size hg.size,fun b hb hno=>(hsame b (B5 hb f.size) (.inl hb)).trans (f.keep b hb hno),f.ids,f.row,f.liv,f.new,f.F1,f.F2⟩⟩
 ·rcases hM.row _ _ _ _ hm with h4 | ⟨b,arr,inf,q0,q1,q2,q3,q4,q5,q6,q7,q8⟩
  ·exact .inl h4
  ·exact .inr ⟨b,arr,inf,q0,(hsame b (kP.1 q1).1 (.inr (eI q1))).trans q1,q2,q3,q4,q5,q6,fun j hj=>(q7 j hj).mono hL.F hL.fz,q8⟩
 ·obtain ⟨b,arr,q0,q1,q2,q3,q4⟩:=hM.box _ _ _ hm
  exact ⟨b,arr,q0,(hsame b (kP.1 q1).1 (.inr (eI q1))).trans q1,q2,fun j hj=>(q3 j hj).mono hL,q4⟩

structure KpG (F:Nat→Prop) (A B:World):Prop where
 size:A.heap.size≤B.heap.size
 same:∀ b,F b→B.heap[b]? = A.heap[b]?
theorem KpG.refl(F:Nat→Prop)(A:World):KpG F A A:=⟨cP _,fun _ _=>rfl⟩
theorem KpG.trans{F:Nat→Prop}{A B D:World}(h:KpG F A B)(k:KpG F B D):KpG F A D:=⟨fL h.size k.size,fun b hb=>(k.same b hb).trans (h.same b hb)⟩

def bQz(P:Program){α:Type}(g:AV)(encs:α→Array Value)(gf N:Nat)(S:List α→Prop):Prop:=∀ (C:Cx) (M:Mem) (w:World) (u:Value),Rep C M w g u→(∀ b,C.F b→b<w.heap.size) →
 ∃ lb Sp,u = .func (.func gf) #[] lb∧SeqStopsK Fence.wide 2 P gf lb encs (KpG C.F) S Sp N w

theorem bEq{ro:Option Nat}{n:Nat}:(Fen ro).room n:=fun d hd=>by cases hd
theorem aBo{ro:Option Nat}{n m:Nat}{c:Code}{Q:Exit→Act→World→Prop}{a:Act}(h:c.wpIn (Fen ro) n P Q a w):c.wpIn (Fen ro) m P Q a w:=fun b k cs hro hb _=>h b k cs hro hb bEq

theorem aHl{C:Cx}{M:Mem}{W:World}(hM:aO P C M W)(hn:xZ M){b:Nat}{o:Obj}(h:W.heap[b]? = some o)(ho:o.isCells=false):∀ (id:Nat) (x:AO),M[id]? = some (some x)→x.live=true→C.ι id≠some b:=fun id x hx hl hb=>by
 cases x with
 | row ty n cs =>
  rcases hM.row _ _ _ _ hx with ⟨h1,_⟩ | ⟨b',arr,i,h1,h2,_⟩
  ·rw [hb] at h1;cases h1
  ·rw [hb] at h1;cases h1;exact iJ h ho (eI h2)
 | box ty cs =>
  obtain ⟨b',arr,h1,h2,_⟩:=hM.box _ _ _ hx;rw [hb] at h1;cases h1;exact iJ h ho (eI h2)
 | mp es cl=>exact hn.1 _ _ _ hx
 | pk to ti sz L=>have:=hn.2 _ _ hx;cases this
 | dead=>cases hl

theorem Mu(p q:Nat)(a b:Value)(t:Array Value):(#[p,q].zip #[a,b]).foldl (fun t (x:Nat × Value)=>t.setIfInBounds x.1 x.2) t=(t.setIfInBounds p a).setIfInBounds q b:=by simp

end KV
end Go.Proofs
end
namespace Go.Proofs
namespace KV
open Tryz
section

theorem aF.count{P:Program}{k:Nat}{b:Code}{e:Ex}{R:St}(N:Nat)(S:Nat→St)(hs:∀ i,i<N→aC P k b (S i) .normal (S (i+1)))(hx:aC P k b (S N) e R)(he:e ≠ .normal):aF P k b (S 0) e R:=by
 have key:∀ d i,i+d=N→aF P k b (S i) e R:=by
  intro d
  induction d with
  | zero =>
   intro i hi;obtain rfl:i=N:=by omega
   exact .exit hx he
  | succ d ih=>intro i hi;exact .step (hs i (by omega)) (ih (i+1) (by omega))
 exact key N 0 (by omega)

theorem aF.until{P:Program}{k:Nat}{b:Code}{e:Ex}{R:St}(N:Nat)(S:Nat→St)(n:Nat)(hn:n≤N)(hs:∀ i,i<n→aC P k b (S i) .normal (S (i+1)))(hx:aC P k b (S n) e R)(he:e ≠ .normal):aF P k b (S 0) e R:=aF.count n S hs hx he

def eA(l:List Int):List (Value × PV):=l.map fun k=>(.int .i64 k,blP true)
theorem aPa(l:List Int)(k:Int):eA (l++[k])=eA l++[(.int .i64 k,blP true)]:=by unfold eA;rw [eE];rfl
theorem mL{n:Int}(hn : -1000000≤n∧n≤1000000):aKc .i64 (.int .i64 n)=true:=by
 show (decide (IntKind.i64=IntKind.i64) && (Lit.int .i64 n).wf)=true;have:(Lit.int .i64 n).wf=true:=by
  have e1:IntKind.i64.min = -9223372036854775808:=rfl;have e2:IntKind.i64.max=9223372036854775807:=rfl;simp only [Lit.wf,e1,e2,Bg,decide_eq_true_eq];omega
 rw [this];rfl
theorem aPb{l:List Int}(hn:l.Nodup)(hb:∀ x∈l,-1000000≤x∧x≤1000000){x:Int}(hx : -1000000≤x∧x≤1000000):bV .i64 (eA l) (.int .i64 x):=by
 refine ⟨fun e he => ?_,mL hx,?_⟩
 ·obtain ⟨y,hy,rfl⟩:=dH.1 he
  exact mL (hb y hy)
 ·unfold eA
  rw [sE];have:l.map ((fun e:Value × PV=>gS e.1) ∘ fun k=>(Value.int .i64 k,blP true))=l:=by
   conv=>rhs;rw [← List.map_id l]
   exact yO fun x _=>rfl
  rw [this];exact hn
theorem bEo{l:List Int}{x:Int}(h:x∉l):cV (eA l) (.int .i64 x)=false:=by
 unfold cV;rw [List.any_eq_false];intro e he;obtain ⟨y,hy,rfl⟩:=dH.1 he;intro h2;have h3:y=x:=of_decide_eq_true h2;exact h (h3 ▸ hy)
theorem bEp{l:List Int}{x:Int}(h:x∈l):cV (eA l) (.int .i64 x)=true:=by
 unfold cV;rw [List.any_eq_true];exact ⟨_,dH.2 ⟨x,h,rfl⟩,decide_eq_true rfl⟩

theorem aYd{l:List Int}{x:Int}(h:x∈l):eL (eA l) (.int .i64 x)=some (blP true):=by
 induction l with
 | nil=>cases h
 | cons a l ih =>
  by_cases e:a=x
  ·subst e;simp [eA,eL]
  ·have h2:x∈l:=by rcases gG.1 h with h | h;exact absurd h.symm e;exact h
   have:=ih h2;simpa [eA,eL,gS,e] using this
def within(n lo hi:Int):Bool:=decide (lo≤n) && decide (n≤hi)
def aL(f:Lqq)(j:Nat):List Int:=f.map fun x=>x.getD j 0
theorem Az{y:List Int}(h:y.length=6):∃ a b c d e f,y=[a,b,c,d,e,f]:=by
 match y,h with
 | [a,b,c,d,e,f],_=>exact ⟨a,b,c,d,e,f,rfl⟩
theorem at2{f:Lqq}(hu:uni 2 f){i:Nat}(hi:i<f.length):∃ a b,f[i]? = some [a,b]:=by
 obtain ⟨a,b,e⟩:=len2 (hu _ (eT hi));exact ⟨a,b,by rw [Ap hi,e]⟩
theorem R3{f:Lqq}(hu:uni 6 f){i:Nat}(hi:i<f.length):∃ a b c d e g,f[i]? = some [a,b,c,d,e,g]:=by
 obtain ⟨a,b,c,d,e,g,h⟩:=Az (hu _ (eT hi));exact ⟨a,b,c,d,e,g,by rw [Ap hi,h]⟩
end
section
section
variable {α:Type} {E:α→List PV} {k:Nat}
theorem aTg(hE:∀ a,(E a).length=k)(l:List α):((l.map E).flatten).length=l.length*k:=by
 induction l with
 | nil=>simp
 | cons a l ih=>rw [gT,uZ,fK,hE,ih,pY,aDl];omega
theorem wN(hE:∀ a,(E a).length=k){l:List α}{i:Nat}{e:α}(h:l[i]? = some e):∃ a b,(l.map E).flatten=a++(E e++b)∧a.length=i*k:=by
 obtain ⟨hi,rfl⟩:=A2.1 h;refine ⟨((l.take i).map E).flatten,((l.drop (i+1)).map E).flatten,?_,?_⟩
 ·have:l=l.take i++(l[i]::l.drop (i+1)):=by rw [← aWm hi,aWn]
  have e2:=congrArg (fun l=>(l.map E).flatten) this
  simp only [eE,gT,aDi,uZ] at e2
  exact e2
 ·rw [aTg hE,nI];congr 1;omega
theorem wO{l:List α}{i f:Nat}(hE:∀ a,(E a).length=k){e:α}{x:PV}(h:l[i]? = some e)(hx:(E e)[f]? = some x):((l.map E).flatten)[i*k+f]? = some x:=by
 obtain ⟨a,b,e1,e2⟩:=wN hE h;have hf:=(A2.1 hx).1;rw [e1,← e2,aAx (by omega),Nat.add_sub_cancel_left,aAy hf]
 exact hx
theorem qO{l:List α}{i:Nat}(hE:∀ a,(E a).length=k){e:α}(h:l[i]? = some e):i*k+k≤((l.map E).flatten).length:=by
 obtain ⟨a,b,e1,e2⟩:=wN hE h;rw [e1,fK,fK,hE,e2];omega
theorem jW{l:List α}{i:Nat}(hE:∀ a,(E a).length=k){e:α}(h:l[i]? = some e){x:PV}(hx:PV.agg (E e)=x):some (.agg ((((l.map E).flatten).drop (i*k)).take k):PV)=some x:=by
 obtain ⟨a,b,e1,e2⟩:=wN hE h;rw [e1,← e2,List.drop_left,List.take_left' (hE e),hx]
theorem lD{l:List α}{i:Int}(hE:∀ a,(E a).length=k)(hk:0<k)(h0:0≤i){e:α}(h:l[i.toNat]? = some e):0≤i∧i<(l.length:Int)∧i.toNat*k<((l.map E).flatten).length:=by
 have hi:=(A2.1 h).1;refine ⟨h0,by omega,?_⟩
 rw [aTg hE];exact Nat.mul_lt_mul_of_pos_right hi hk
end
end
section
variable {n Fe:Int}{d0 d1 d2 d3 d4 d5 rr d0'1 d2'3 d3'5 Dc:List Int}{a b i k x y z b' Rk Bn Rl Rm base:Nat}

noncomputable abbrev aBk:Code:=pS (cd Tryz.f142) 5 [0,1,0,0]
noncomputable abbrev aHh:Code:=sub (cd Tryz.f142) [1,1,0,1,0,0]
noncomputable abbrev aHi:Code:=sub (cd Tryz.f142) [1,1,1,0,1,0,0]
noncomputable abbrev aHj:Code:=sub (cd Tryz.f142) [1,1,1,1,0,1,0,0]
noncomputable abbrev aHk:Code:=sub (cd Tryz.f142) [1,1,0,1,0,0,1,1,0,0,1,1,0,0]
noncomputable abbrev aOx:Code:=sub (cd Tryz.f142) [1,1,1,1,0,1,0,0,1,1,0,0,1,1,0,0]
noncomputable abbrev aOy:Code:=sub (cd Tryz.f142) [1,1,1,1,0,1,0,0,1,1,0,0,1,1,0,0,1,1,0,0,1,1,0,0]
def lnE(x:Int × Int × Int × Int × Int):List PV:=[aA x.1,aA x.2.1,aA x.2.2.1,aA x.2.2.2.1,.fn 193 [] [.rp [aA x.2.2.2.2] 0]]
def mH(n:Int)(L:List (Int × Int × Int × Int × Int))(a:Nat)(S9:List PV):St:=⟨fr 107 [(0,(pI n)),(1,(.p (.sl L.length ((L.map lnE).flatten)))),(4,(.ptr 0 0)),(5,(.kb false)),(6,(.ptr 1 0)),(15,(pI (a:Int)))],[some (.row 212 1 [(aA 0),(aA 0),(aA 0),(aA 0),(aA 0),(aA 0),(aA 0),(aA 0),(aA 0),(aA 0),(aA 0),(aA 0),(aA 0),(aA 0),(aA 0),(aA 0),(aA 0),(aA 0),(aA 0),(aA 0),(aA 0),(aA 0),(aA 0),(aA 0),(aA 0),(aA 0),(aA 0),(aA 0),(aA 0),(aA 0),(aA 0),(aA 0),(aA 0),(aA 0),(aA 0),(aA 0),(aA 0),(aA 0),(aA 0),(aA 0),(aA 0),(aA 0),(aA 0),(aA 0),(aA 0),(aA 0),(aA 0),(aA 0),(aA 0),(aA 0),(aA 0),(aA 0),(aA 0),(aA 0),(aA 0),(aA 0),(aA 0),(aA 0),(aA 0),(aA 0),(aA 0),(aA 0),(aA 0),(aA 0),(aA 0),(aA 0),(aA 0),(aA 0),(aA 0),(aA 0),(aA 0),(aA 0),(aA 0),(aA 0),(aA 0),(aA 0),(aA 0),(aA 0),(aA 0),(aA 0),(aA 0)]),some (.row 212 1 S9)]⟩
def mI(n:Int)(L:List (Int × Int × Int × Int × Int))(i:Nat)(Ta:List PV):St:=⟨fr 107 [(0,(pI n)),(4,(.ptr 0 0)),(5,(.kb false)),(6,(.ptr 1 0)),(30,(.p (.sl L.length ((L.map lnE).flatten)))),(31,(pI (L.length:Int))),(32,(pI (i:Int)))],[some (.row 212 1 [(aA 0),(aA 0),(aA 0),(aA 0),(aA 0),(aA 0),(aA 0),(aA 0),(aA 0),(aA 0),(aA 0),(aA 0),(aA 0),(aA 0),(aA 0),(aA 0),(aA 0),(aA 0),(aA 0),(aA 0),(aA 0),(aA 0),(aA 0),(aA 0),(aA 0),(aA 0),(aA 0),(aA 0),(aA 0),(aA 0),(aA 0),(aA 0),(aA 0),(aA 0),(aA 0),(aA 0),(aA 0),(aA 0),(aA 0),(aA 0),(aA 0),(aA 0),(aA 0),(aA 0),(aA 0),(aA 0),(aA 0),(aA 0),(aA 0),(aA 0),(aA 0),(aA 0),(aA 0),(aA 0),(aA 0),(aA 0),(aA 0),(aA 0),(aA 0),(aA 0),(aA 0),(aA 0),(aA 0),(aA 0),(aA 0),(aA 0),(aA 0),(aA 0),(aA 0),(aA 0),(aA 0),(aA 0),(aA 0),(aA 0),(aA 0),(aA 0),(aA 0),(aA 0),(aA 0),(aA 0),(aA 0)]),some (.row 212 1 Ta)]⟩
def mJ(n:Int)(k:Nat)(Tb:List PV):St:=⟨fr 107 [(0,(pI n)),(4,(.ptr 0 0)),(5,(.kb false)),(6,(.ptr 1 0)),(55,(pI (n+1))),(56,(pI (k:Int)))],[some (.row 212 1 [(aA 0),(aA 0),(aA 0),(aA 0),(aA 0),(aA 0),(aA 0),(aA 0),(aA 0),(aA 0),(aA 0),(aA 0),(aA 0),(aA 0),(aA 0),(aA 0),(aA 0),(aA 0),(aA 0),(aA 0),(aA 0),(aA 0),(aA 0),(aA 0),(aA 0),(aA 0),(aA 0),(aA 0),(aA 0),(aA 0),(aA 0),(aA 0),(aA 0),(aA 0),(aA 0),(aA 0),(aA 0),(aA 0),(aA 0),(aA 0),(aA 0),(aA 0),(aA 0),(aA 0),(aA 0),(aA 0),(aA 0),(aA 0),(aA 0),(aA 0),(aA 0),(aA 0),(aA 0),(aA 0),(aA 0),(aA 0),(aA 0),(aA 0),(aA 0),(aA 0),(aA 0),(aA 0),(aA 0),(aA 0),(aA 0),(aA 0),(aA 0),(aA 0),(aA 0),(aA 0),(aA 0),(aA 0),(aA 0),(aA 0),(aA 0),(aA 0),(aA 0),(aA 0),(aA 0),(aA 0),(aA 0)]),some (.row 212 1 Tb)]⟩
def jJ(n:Int)(d3'5:List Int)(z:Nat)(rrc:List PV):St:=⟨fr 107 [(4,(.ptr 0 0)),(6,(.ptr 1 0)),(94,(pI (n+1))),(95,(pI (z:Int)))],[some (.row 212 1 rrc),some (.row 212 1 (d3'5.map aA))]⟩
section
variable{L:List (Int × Int × Int × Int × Int)}(hl0:aF Tp 0 aHh (mH n L 0 [(aA 0),(aA 0),(aA 0),(aA 0),(aA 0),(aA 0),(aA 0),(aA 0),(aA 0),(aA 0),(aA 0),(aA 0),(aA 0),(aA 0),(aA 0),(aA 0),(aA 0),(aA 0),(aA 0),(aA 0),(aA 0),(aA 0),(aA 0),(aA 0),(aA 0),(aA 0),(aA 0),(aA 0),(aA 0),(aA 0),(aA 0),(aA 0),(aA 0),(aA 0),(aA 0),(aA 0),(aA 0),(aA 0),(aA 0),(aA 0),(aA 0),(aA 0),(aA 0),(aA 0),(aA 0),(aA 0),(aA 0),(aA 0),(aA 0),(aA 0),(aA 0),(aA 0),(aA 0),(aA 0),(aA 0),(aA 0),(aA 0),(aA 0),(aA 0),(aA 0),(aA 0),(aA 0),(aA 0),(aA 0),(aA 0),(aA 0),(aA 0),(aA 0),(aA 0),(aA 0),(aA 0),(aA 0),(aA 0),(aA 0),(aA 0),(aA 0),(aA 0),(aA 0),(aA 0),(aA 0),(aA 0)]) (.exit 0) (mH n L Rk (d0'1.map aA)))(hl1:aF Tp 0 aHi (mI n L 0 (d0'1.map aA)) (.exit 4) (mI n L Bn (d2'3.map aA)))(h2:inR (n+1))(Bl:aF Tp 0 aHj (mJ n 0 (d2'3.map aA)) (.exit 6) (mJ n Rl (d3'5.map aA)))
include hl0 hl1 h2 Bl
theorem bQt(He:aF Tp 0 aBk (jJ n d3'5 0 [(aA 0),(aA 0),(aA 0),(aA 0),(aA 0),(aA 0),(aA 0),(aA 0),(aA 0),(aA 0),(aA 0),(aA 0),(aA 0),(aA 0),(aA 0),(aA 0),(aA 0),(aA 0),(aA 0),(aA 0),(aA 0),(aA 0),(aA 0),(aA 0),(aA 0),(aA 0),(aA 0),(aA 0),(aA 0),(aA 0),(aA 0),(aA 0),(aA 0),(aA 0),(aA 0),(aA 0),(aA 0),(aA 0),(aA 0),(aA 0),(aA 0),(aA 0),(aA 0),(aA 0),(aA 0),(aA 0),(aA 0),(aA 0),(aA 0),(aA 0),(aA 0),(aA 0),(aA 0),(aA 0),(aA 0),(aA 0),(aA 0),(aA 0),(aA 0),(aA 0),(aA 0),(aA 0),(aA 0),(aA 0),(aA 0),(aA 0),(aA 0),(aA 0),(aA 0),(aA 0),(aA 0),(aA 0),(aA 0),(aA 0),(aA 0),(aA 0),(aA 0),(aA 0),(aA 0),(aA 0),(aA 0)]) (.exit 12) (jJ n d3'5 Rm (Dc.map aA)))(h5:d3'5.length=81)(h6:(d3'5.map aA).length=81∧0+81≤(Dc.map aA).length):FV Tp 142 [(pI n),(.p (.sl L.length ((L.map lnE).flatten)))] base (.tup [(.p (.agg (d3'5.map aA))),(pB true)]) []:=FV.fi func142 [hl0.k 8 (gI cg [0,1]),hl1.k 4 (gI bf [0,1]),Bl.k 4 (gI bg [0,1]),He.k 4 (gI bn [0,1]),.x (.agg (d3'5.map aA)),.x (.agg (d3'5.map aA))] (gt (some (.agg ((((Dc.map aA).take 0++(d3'5.map aA)++(Dc.map aA).drop (0+81)).drop 0).take 81):PV)=some (.agg (d3'5.map aA))) (by rw [List.take_zero,List.nil_append,List.drop_zero,List.take_left' (h6).1]) (gt (0+81≤((Dc.map aA).take 0++(d3'5.map aA)++(Dc.map aA).drop (0+81)).length) (by rw [List.take_zero,List.nil_append,fK];have:=(h6).1;omega) (gc h6 (gt (some (.agg (((d3'5.map aA).drop 0).take 81):PV)=some (.agg (d3'5.map aA))) (by rw [List.drop_zero,List.take_of_length_le (by rw [A8,h5];exact cP _)]) (gt (0+81≤(d3'5.map aA).length) (by rw [A8,h5];exact cP _) (gc He.code (gc h2 (gc Bl.code (gc h2 (gc hl1.code (gc hl0.code gn)))))))))))
theorem bQu(He:aF Tp 0 aBk (jJ n d3'5 0 [(aA 0),(aA 0),(aA 0),(aA 0),(aA 0),(aA 0),(aA 0),(aA 0),(aA 0),(aA 0),(aA 0),(aA 0),(aA 0),(aA 0),(aA 0),(aA 0),(aA 0),(aA 0),(aA 0),(aA 0),(aA 0),(aA 0),(aA 0),(aA 0),(aA 0),(aA 0),(aA 0),(aA 0),(aA 0),(aA 0),(aA 0),(aA 0),(aA 0),(aA 0),(aA 0),(aA 0),(aA 0),(aA 0),(aA 0),(aA 0),(aA 0),(aA 0),(aA 0),(aA 0),(aA 0),(aA 0),(aA 0),(aA 0),(aA 0),(aA 0),(aA 0),(aA 0),(aA 0),(aA 0),(aA 0),(aA 0),(aA 0),(aA 0),(aA 0),(aA 0),(aA 0),(aA 0),(aA 0),(aA 0),(aA 0),(aA 0),(aA 0),(aA 0),(aA 0),(aA 0),(aA 0),(aA 0),(aA 0),(aA 0),(aA 0),(aA 0),(aA 0),(aA 0),(aA 0),(aA 0),(aA 0)]) .ret (cC (jJ n d3'5 Rm (Dc.map aA)) [(5,(.kb false))]))(h5:Dc.length=81):FV Tp 142 [(pI n),(.p (.sl L.length ((L.map lnE).flatten)))] base (.tup [(.p (.agg (Dc.map aA))),(pB false)]) []:=FV.fi func142 [hl0.k 8 (gI cg [0,1]),hl1.k 4 (gI bf [0,1]),Bl.k 4 (gI bg [0,1]),He.k 4 (gI bn [0,1]),.x (.agg (Dc.map aA))] (gt (some (.agg (((Dc.map aA).drop 0).take 81):PV)=some (.agg (Dc.map aA))) (by rw [List.drop_zero,List.take_of_length_le (by rw [A8,h5];exact cP _)]) (gt (0+81≤(Dc.map aA).length) (by rw [A8,h5];exact cP _) (gc He.code (gc h2 (gc Bl.code (gc h2 (gc hl1.code (gc hl0.code gn))))))))
end
def mK(n:Int)(L:List (Int × Int × Int × Int × Int))(a b:Nat)(Tc:List PV):St:=⟨fr 107 [(0,(pI n)),(1,(.p (.sl L.length ((L.map lnE).flatten)))),(4,(.ptr 0 0)),(5,(.kb false)),(6,(.ptr 1 0)),(7,(pI (a:Int))),(15,(pI (a:Int))),(16,(pB (decide ((a:Int)<9)))),(17,(pI (a:Int))),(18,(pI (b:Int)))],[some (.row 212 1 [(aA 0),(aA 0),(aA 0),(aA 0),(aA 0),(aA 0),(aA 0),(aA 0),(aA 0),(aA 0),(aA 0),(aA 0),(aA 0),(aA 0),(aA 0),(aA 0),(aA 0),(aA 0),(aA 0),(aA 0),(aA 0),(aA 0),(aA 0),(aA 0),(aA 0),(aA 0),(aA 0),(aA 0),(aA 0),(aA 0),(aA 0),(aA 0),(aA 0),(aA 0),(aA 0),(aA 0),(aA 0),(aA 0),(aA 0),(aA 0),(aA 0),(aA 0),(aA 0),(aA 0),(aA 0),(aA 0),(aA 0),(aA 0),(aA 0),(aA 0),(aA 0),(aA 0),(aA 0),(aA 0),(aA 0),(aA 0),(aA 0),(aA 0),(aA 0),(aA 0),(aA 0),(aA 0),(aA 0),(aA 0),(aA 0),(aA 0),(aA 0),(aA 0),(aA 0),(aA 0),(aA 0),(aA 0),(aA 0),(aA 0),(aA 0),(aA 0),(aA 0),(aA 0),(aA 0),(aA 0),(aA 0)]),some (.row 212 1 Tc)]⟩
theorem aXh{L:List (Int × Int × Int × Int × Int)}{Mb:Nat}{d1'101:List Int}{a':Nat}{Rn:List Int}(h0:(a:Int)<9)(hl1:aF Tp 0 aHk (mK n L a 0 (d0.map aA)) (.exit 2) (mK n L a Mb (d1'101.map aA)))(h2:da a)(Md:a'=(a+1))(Me:Rn.map aA=(d1'101.map aA)):aC Tp 0 aHh (mH n L a (d0.map aA)) .normal (mH n L a' (Rn.map aA)):=by
 subst Md;rw [Me];exact aC.fi (gI cg [0,1]) [bT,hl1.k 7 (gI cj [0,1])] (gc h2 (gc hl1.code (g0 h0)))
theorem aXi{L:List (Int × Int × Int × Int × Int)}(h0:(9:Int)≤(a:Int)):aC Tp 0 aHh (mH n L a (d0.map aA)) (.exit 0) (mH n L a (d0.map aA)):=aC.fi (gI cg [0,1]) [bF] (gc (bA h0) gn)
theorem aXj{L:List (Int × Int × Int × Int × Int)}{I6 I7 Di Dj Ek Hf:Int}{i':Nat}{Ro:List Int}(h0:(i:Int)<(L.length:Int))(h1:L[i]? = some (I6,I7,Di,Dj,Ek))(h2:0≤Di∧Di<9)(h3:0≤Dj∧Dj<9)(h4:d2[((0+(Di.toNat*9))+(Dj.toNat*1))]? = some Hf)(h5:((0+(Di.toNat*9))+(Dj.toNat*1))<(d2.map aA).length)(h6:da i)(Ai:i'=(i+1))(Mf:Ro.map aA=((d2.map aA).set ((0+(Di.toNat*9))+(Dj.toNat*1)) (aA (if Ek<Hf then Ek else Hf)))):aC Tp 0 aHi (mI n L i (d2.map aA)) .normal (mI n L i' (Ro.map aA)):=by
 subst Ai;rw [Mf];exact aC.fi (gI bf [0,1]) [bT,.x (.agg [(aA I6),(aA I7),(aA Di),(aA Dj),(PV.fn 193 [] [(PV.rp [(aA Ek)] 0)])]),.x (aA Hf),.c (pI Ek) []] (gc h6 (gc h5 (gc h3 (gc h2 (gc (fk 3 (bQx Ek) rfl) (gt ((d2.map aA)[((0+(Di.toNat*9))+(Dj.toNat*1))]? = some (aA Hf)) (by rw [B6,h4];rfl) (gc h3 (gc h2 (gc (jW (E:=lnE) (i:=i) (k:=5) (fun _=>rfl) h1 rfl) (gc (qO (E:=lnE) (i:=i) (k:=5) (fun _=>rfl) h1) (gc (lD (E:=lnE) (k:=5) (i:=(i:Int)) (fun _=>rfl) (by decide) (hZ _) h1) (g0 h0))))))))))))
theorem aXk{L:List (Int × Int × Int × Int × Int)}(h0:(L.length:Int)≤(i:Int)):aC Tp 0 aHi (mI n L i (d2.map aA)) (.exit 4) (mI n L i (d2.map aA)):=aC.fi (gI bf [0,1]) [bF] (gc (bA h0) gn)
def qG(n:Int)(k x:Nat)(Td:List PV):St:=⟨fr 107 [(0,(pI n)),(4,(.ptr 0 0)),(5,(.kb false)),(6,(.ptr 1 0)),(11,(pI (k:Int))),(55,(pI (n+1))),(56,(pI (k:Int))),(57,(pB (decide ((k:Int)<(n+1))))),(58,(pI (k:Int))),(59,(pI n)),(60,(pI (n+1))),(61,(pI (x:Int)))],[some (.row 212 1 [(aA 0),(aA 0),(aA 0),(aA 0),(aA 0),(aA 0),(aA 0),(aA 0),(aA 0),(aA 0),(aA 0),(aA 0),(aA 0),(aA 0),(aA 0),(aA 0),(aA 0),(aA 0),(aA 0),(aA 0),(aA 0),(aA 0),(aA 0),(aA 0),(aA 0),(aA 0),(aA 0),(aA 0),(aA 0),(aA 0),(aA 0),(aA 0),(aA 0),(aA 0),(aA 0),(aA 0),(aA 0),(aA 0),(aA 0),(aA 0),(aA 0),(aA 0),(aA 0),(aA 0),(aA 0),(aA 0),(aA 0),(aA 0),(aA 0),(aA 0),(aA 0),(aA 0),(aA 0),(aA 0),(aA 0),(aA 0),(aA 0),(aA 0),(aA 0),(aA 0),(aA 0),(aA 0),(aA 0),(aA 0),(aA 0),(aA 0),(aA 0),(aA 0),(aA 0),(aA 0),(aA 0),(aA 0),(aA 0),(aA 0),(aA 0),(aA 0),(aA 0),(aA 0),(aA 0),(aA 0),(aA 0)]),some (.row 212 1 Td)]⟩
theorem aXl{Mg:Nat}{d4'401:List Int}{k':Nat}{Rp:List Int}(h0:(k:Int)<(n+1))(h1:inR (n+1))(Bu:aF Tp 0 aOx (qG n k 0 (d3.map aA)) (.exit 8) (qG n k Mg (d4'401.map aA)))(h3:da k)(Jt:k'=(k+1))(Mh:Rp.map aA=(d4'401.map aA)):aC Tp 0 aHj (mJ n k (d3.map aA)) .normal (mJ n k' (Rp.map aA)):=by
 subst Jt;rw [Mh];exact aC.fi (gI bg [0,1]) [bT,Bu.k 7 (gI ao [0,1])] (gc h3 (gc Bu.code (gc h1 (g0 h0))))
theorem aXm(h0:(n+1)≤(k:Int)):aC Tp 0 aHj (mJ n k (d3.map aA)) (.exit 6) (mJ n k (d3.map aA)):=aC.fi (gI bg [0,1]) [bF] (gc (bA h0) gn)
section
variable(h0:(z:Int)<(n+1))(h1:0≤(z:Int)∧(z:Int)<9)(h2:d3'5[((0+(z*9))+(z*1))]? = some Fe)
include h0 h1 h2
theorem aXn{Rq:List Int}(h3:Fe<0)(h4:d3'5.length=81)(h5:(d3'5.map aA).length=81∧0+81≤(rr.map aA).length)(Mi:Rq.map aA=((rr.map aA).take 0++(d3'5.map aA)++(rr.map aA).drop (0+81))):aC Tp 0 aBk (jJ n d3'5 z (rr.map aA)) .ret (cC (jJ n d3'5 z (Rq.map aA)) [(5,(.kb false))]):=by
 rw [Mi];exact aC.fi (gI [0,4,7,87,96,10] [0,1]) [bT,.x (aA Fe),bT,.x (.agg (d3'5.map aA))] (gc h5 (gt (some (.agg (((d3'5.map aA).drop 0).take 81):PV)=some (.agg (d3'5.map aA))) (by rw [List.drop_zero,List.take_of_length_le (by rw [A8,h4];exact cP _)]) (gt (0+81≤(d3'5.map aA).length) (by rw [A8,h4];exact cP _) (gc (eV h3) (gt ((d3'5.map aA)[((0+(z*9))+(z*1))]? = some (aA Fe)) (by rw [B6,h2];rfl) (Bc h1 (g0 h0)))))))
theorem aXo{z':Nat}(h3:(0:Int)≤Fe)(h4:da z)(Te:z'=(z+1)):aC Tp 0 aBk (jJ n d3'5 z (rr.map aA)) .normal (jJ n d3'5 z' (rr.map aA)):=by
 subst Te;exact aC.fi (gI bn [0,1]) [bT,.x (aA Fe),bF] (gc h4 (gc (bA h3) (gt ((d3'5.map aA)[((0+(z*9))+(z*1))]? = some (aA Fe)) (by rw [B6,h2];rfl) (Bc h1 (g0 h0)))))
end
theorem aXp(h0:(n+1)≤(z:Int)):aC Tp 0 aBk (jJ n d3'5 z (rr.map aA)) (.exit 12) (jJ n d3'5 z (rr.map aA)):=aC.fi (gI bn [0,1]) [bF] (gc (bA h0) gn)
theorem aXq{L:List (Int × Int × Int × Int × Int)}{Rr:List Int}(h0:(b:Int)<9)(h1:(a:Int)≠(b:Int))(h2:0≤(a:Int)∧(a:Int)<9)(h3:0≤(b:Int)∧(b:Int)<9)(h4:((0+(a*9))+(b*1))<(d1.map aA).length)(h5:da b)(Pt:b'=(b+1))(Mj:Rr.map aA=((d1.map aA).set ((0+(a*9))+(b*1)) (aA 1048576))):aC Tp 0 aHk (mK n L a b (d1.map aA)) .normal (mK n L a b' (Rr.map aA)):=by
 subst Pt;rw [Mj];exact aC.fi (gI cj [0,1]) [bT,bT] (gc h5 (gc h4 (gc h3 (gc h2 (gc (sQ h1) (g0 h0))))))
theorem aXr{L:List (Int × Int × Int × Int × Int)}(h0:(b:Int)<9)(h1:(a:Int)=(b:Int))(h2:da b)(Pt:b'=(b+1)):aC Tp 0 aHk (mK n L a b (d1.map aA)) .normal (mK n L a b' (d1.map aA)):=by
 subst Pt;exact aC.fi (gI cj [0,1]) [bT,bF] (gc h2 (gc (iI h1) (g0 h0)))
theorem aXs{L:List (Int × Int × Int × Int × Int)}(h0:(9:Int)≤(b:Int)):aC Tp 0 aHk (mK n L a b (d1.map aA)) (.exit 2) (mK n L a b (d1.map aA)):=aC.fi (gI cj [0,1]) [bF] (gc (bA h0) gn)
def qH(n:Int)(k x y:Nat)(Tf:List PV):St:=⟨fr 107 [(0,(pI n)),(4,(.ptr 0 0)),(5,(.kb false)),(6,(.ptr 1 0)),(11,(pI (k:Int))),(12,(pI (x:Int))),(55,(pI (n+1))),(56,(pI (k:Int))),(57,(pB (decide ((k:Int)<(n+1))))),(58,(pI (k:Int))),(59,(pI n)),(60,(pI (n+1))),(61,(pI (x:Int))),(62,(pB (decide ((x:Int)<(n+1))))),(63,(pI (x:Int))),(64,(pI n)),(65,(pI (n+1))),(66,(pI (y:Int)))],[some (.row 212 1 [(aA 0),(aA 0),(aA 0),(aA 0),(aA 0),(aA 0),(aA 0),(aA 0),(aA 0),(aA 0),(aA 0),(aA 0),(aA 0),(aA 0),(aA 0),(aA 0),(aA 0),(aA 0),(aA 0),(aA 0),(aA 0),(aA 0),(aA 0),(aA 0),(aA 0),(aA 0),(aA 0),(aA 0),(aA 0),(aA 0),(aA 0),(aA 0),(aA 0),(aA 0),(aA 0),(aA 0),(aA 0),(aA 0),(aA 0),(aA 0),(aA 0),(aA 0),(aA 0),(aA 0),(aA 0),(aA 0),(aA 0),(aA 0),(aA 0),(aA 0),(aA 0),(aA 0),(aA 0),(aA 0),(aA 0),(aA 0),(aA 0),(aA 0),(aA 0),(aA 0),(aA 0),(aA 0),(aA 0),(aA 0),(aA 0),(aA 0),(aA 0),(aA 0),(aA 0),(aA 0),(aA 0),(aA 0),(aA 0),(aA 0),(aA 0),(aA 0),(aA 0),(aA 0),(aA 0),(aA 0),(aA 0)]),some (.row 212 1 Tf)]⟩
theorem aXt{Mk:Nat}{d5'501:List Int}{x':Nat}{Rs:List Int}(h0:(x:Int)<(n+1))(h1:inR (n+1))(Bu:aF Tp 0 aOy (qH n k x 0 (d4.map aA)) (.exit 10) (qH n k x Mk (d5'501.map aA)))(h3:da x)(Tg:x'=(x+1))(Ml:Rs.map aA=(d5'501.map aA)):aC Tp 0 aOx (qG n k x (d4.map aA)) .normal (qG n k x' (Rs.map aA)):=by
 subst Tg;rw [Ml];exact aC.fi (gI ao [0,1]) [bT,Bu.k 7 (gI ap [0,1])] (gc h3 (gc Bu.code (gc h1 (g0 h0))))
theorem aXu(h0:(n+1)≤(x:Int)):aC Tp 0 aOx (qG n k x (d4.map aA)) (.exit 8) (qG n k x (d4.map aA)):=aC.fi (gI ao [0,1]) [bF] (gc (bA h0) gn)
theorem aXv{Hg Gl Gm:Int}{y':Nat}{Rt:List Int}(h0:(y:Int)<(n+1))(h1:0≤(x:Int)∧(x:Int)<9)(h2:0≤(y:Int)∧(y:Int)<9)(h3:d5[((0+(x*9))+(y*1))]? = some Hg)(h4:0≤(k:Int)∧(k:Int)<9)(h5:d5[((0+(x*9))+(k*1))]? = some Gl)(h6:d5[((0+(k*9))+(y*1))]? = some Gm)(h7:inR (Gl+Gm))(h8:((0+(x*9))+(y*1))<(d5.map aA).length)(h9:da y)(Tj:y'=(y+1))(Mm:Rt.map aA=((d5.map aA).set ((0+(x*9))+(y*1)) (aA (if (Gl+Gm)<Hg then (Gl+Gm) else Hg)))):aC Tp 0 aOy (qH n k x y (d5.map aA)) .normal (qH n k x y' (Rt.map aA)):=by
 subst Tj;rw [Mm];exact aC.fi (gI ap [0,1]) [bT,.x (aA Hg),.x (aA Gl),.x (aA Gm)] (gc h9 (gc h8 (gc h2 (gc h1 (gc h7 (gt ((d5.map aA)[((0+(k*9))+(y*1))]? = some (aA Gm)) (by rw [B6,h6];rfl) (gc h2 (gc h4 (gt ((d5.map aA)[((0+(x*9))+(k*1))]? = some (aA Gl)) (by rw [B6,h5];rfl) (gc h4 (gc h1 (gt ((d5.map aA)[((0+(x*9))+(y*1))]? = some (aA Hg)) (by rw [B6,h3];rfl) (gc h2 (gc h1 (g0 h0)))))))))))))))
theorem aXw(h0:(n+1)≤(y:Int)):aC Tp 0 aOy (qH n k x y (d5.map aA)) (.exit 10) (qH n k x y (d5.map aA)):=aC.fi (gI ap [0,1]) [bF] (gc (bA h0) gn)
end
section
theorem aF.some{P:Program}{k:Nat}{b:Code}{β:Type}{e:Ex}(S:Nat→β→St)(Inv:Nat→β→Prop)(R:β→St)(he:e ≠ .normal)(n:Nat){a0:β}(h0:Inv 0 a0)
  (hs:∀ (i:Nat) (acc:β),i<n→Inv i acc→∃ Ay,Inv (i+1) Ay∧aC P k b (S i acc) .normal (S (i+1) Ay))
  (hx:∀ acc,Inv n acc→aC P k b (S n acc) e (R acc)):∃ acc,Inv n acc∧aF P k b (S 0 a0) e (R acc):=by
 have key:∀ (r i:Nat) (acc:β),i+r=n→Inv i acc→∃ Ay,Inv n Ay∧aF P k b (S i acc) e (R Ay):=by
  intro r
  induction r with
  | zero =>
   intro i acc h hI;obtain rfl:i=n:=by omega
   exact ⟨acc,hI,.exit (hx acc hI) he⟩
  | succ r ih =>
   intro i acc h hI;obtain ⟨a1,h1,c1⟩:=hs i acc (by omega) hI
   obtain ⟨a2,h2,l2⟩:=ih (i+1) a1 (by omega) h1
   exact ⟨a2,h2,.step c1 l2⟩
 exact key n 0 a0 (by omega) h0
abbrev Lk:=Int × Int × Int × Int × Int
def bEm(n:Nat)(x:Lk):Prop:=(0≤x.2.2.1∧x.2.2.1≤(n:Int))∧(0≤x.2.2.2.1∧x.2.2.2.1≤(n:Int)) ∧ -100≤x.2.2.2.2∧x.2.2.2.2≤100
def bJy(n:Nat)(s:List Int):Prop:=∃ a b c d:Int,s=[a,b,c,d]∧0≤a∧a≤b∧b<(n:Int)∧0≤c∧c≤d∧d≤72
theorem aHg(L M:List Lk):(((L++M).map lnE).flatten)=(L.map lnE).flatten++(M.map lnE).flatten:=by rw [eE,aDi]
theorem bEn{n:Nat}{l:Lqq}{w:List Int}(hn:n≤8)(hl:l.length≤20)(hs:∀ s∈l,bJy n s)(hw:∀ x∈w,0≤x∧x≤5)(hwn:w.length≤n) :
  ∃ L:List Lk,(∀ x∈L,bEm n x)∧L.length≤100∧∀ base,FV Tp 143 [.p (aA (n:Int)),.p (.sl l.length (l.flatten.map aA)),.p (aG w)] base (.own base) [(base,.row 263 L.length ((L.map lnE).flatten))]:=by
 have hu:uni 4 l:=fun s h=>by obtain ⟨a,b,c,d,rfl,_⟩:=hs s h;rfl
 obtain ⟨L0,⟨i0,q0⟩,l0⟩:=aF.some (P:=Tp) (k:=0) (b:=sub (cd Tryz.f143) cf) (e := .exit 0) (fun i (L:List Lk)=>qJ (n:Int) l w i L.length ((L.map lnE).flatten)) (fun i L=>L.length=2*i∧∀ x∈L,bEm n x) (fun L=>qJ (n:Int) l w l.length L.length ((L.map lnE).flatten)) (by simp) l.length (a0:=[]) ⟨rfl,fun _ h=>absurd h (List.not_mem_nil)⟩
  (fun i L hi ⟨h1,h2⟩=>by
   have hm:=eT hi;obtain ⟨a,b,c,d,e,q⟩:=hs _ hm;have h:l[i]? = some [a,b,c,d]:=by rw [Ap hi,e]
   refine ⟨L++[(0,(i:Int),a,b+1,d),(1,(i:Int),b+1,a,0-c)],⟨by rw [fK,h1];show _+2=_;omega,fun x hx => ?_⟩,aXx (by omega) h hu (by show _∧_;omega) (by show _∧_;omega) ⟨rfl,by omega⟩ (by show _∧_;omega) rfl (by rw [fK];rfl) (by rw [aHg];rfl)⟩
   rcases eU.1 hx with hx | hx
   ·exact h2 x hx
   ·rcases gG.1 hx with rfl | hx
    ·refine ⟨?_,?_,?_⟩ <;> dsimp only <;> omega
    ·obtain rfl:=List.mem_singleton.1 hx
     refine ⟨?_,?_,?_⟩ <;> dsimp only <;> omega)
  (fun L _=>aXy (by omega))
 obtain ⟨L1,⟨i1,q1⟩,l1⟩:=aF.some (P:=Tp) (k:=0) (b:=sub (cd Tryz.f143) c6) (e := .exit 2) (fun i (L:List Lk)=>qK (n:Int) w i L.length ((L.map lnE).flatten)) (fun i L=>L.length=L0.length+2*i∧∀ x∈L,bEm n x) (fun L=>qK (n:Int) w n L.length ((L.map lnE).flatten)) (by simp) n (a0:=L0) ⟨rfl,q0⟩
  (fun i L hi ⟨h1,h2⟩=>by
   refine ⟨L++[(2,(i:Int),(i:Int),((i+1:Nat):Int),9),(3,(i:Int),((i+1:Nat):Int),(i:Int),0)],⟨by rw [fK,h1];show _+2=_;omega,fun x hx => ?_⟩,aXz (by omega) (by show _∧_;omega) ⟨rfl,by omega⟩ rfl (by rw [fK];rfl) (by rw [aHg];rfl)⟩
   rcases eU.1 hx with hx | hx
   ·exact h2 x hx
   ·rcases gG.1 hx with rfl | hx
    ·refine ⟨?_,?_,?_⟩ <;> dsimp only <;> omega
    ·obtain rfl:=List.mem_singleton.1 hx
     refine ⟨?_,?_,?_⟩ <;> dsimp only <;> omega)
  (fun L _=>aYa (by omega))
 obtain ⟨L2,⟨i2,q2⟩,l2⟩:=aF.some (P:=Tp) (k:=0) (b:=sub (cd Tryz.f143) bu) (e := .exit 4) (fun i (L:List Lk)=>qL w i L.length ((L.map lnE).flatten)) (fun i L=>L.length=L1.length+i∧∀ x∈L,bEm n x) (fun L=>qL w w.length L.length ((L.map lnE).flatten)) (by simp) w.length (a0:=L1) ⟨rfl,q1⟩
  (fun i L hi ⟨h1,h2⟩=>by
   have hx:=hw _ (eT hi);refine ⟨L++[(4,(i:Int),((i+1:Nat):Int),(i:Int),0-w[i])],⟨by rw [fK,h1];show _+1=_;omega,fun x hx => ?_⟩,aYb (by omega) (Ap hi) (by show _∧_;omega) (by show _∧_;omega) ⟨rfl,by omega⟩ rfl (by rw [fK];rfl) (by rw [aHg];rfl)⟩
   rcases eU.1 hx with hx | hx
   ·exact h2 x hx
   ·obtain rfl:=List.mem_singleton.1 hx
    refine ⟨?_,?_,?_⟩ <;> dsimp only <;> omega)
  (fun L _=>aYc (by omega))
 exact ⟨L2,q2,by omega,fun base=>bQy l0 l1 l2⟩
def gD(d:List Int)(a b:Nat):Int:=d.getD (a*9+b) 0
theorem aBi{d:List Int}{a b:Nat}(hd:d.length=81)(ha:a<9)(hb:b<9):d[((0+(a*9))+(b*1))]? = some (gD d a b):=by
 have h:a*9+b<d.length:=by omega
 rw [show (0+a*9)+b*1=a*9+b by omega,Ap h]
 unfold gD;rw [Bj,Ap h];rfl
theorem bQr{d:List Int}{a b x y:Nat}{v:Int}(hd:d.length=81)(ha:a<9)(hb:b<9)(hx:x<9)(hy:y<9):gD (d.set ((0+(x*9))+(y*1)) v) a b=if a=x∧b=y then v else gD d a b:=by
 unfold gD;rw [Bj,List.getElem?_set,Bj]
 by_cases h:a=x∧b=y
 ·obtain ⟨rfl,rfl⟩:=h
  rw [if_pos (by omega),if_pos (by omega),if_pos ⟨rfl,rfl⟩];rfl
 ·rw [if_neg (by omega),if_neg h]
def DOK(lo:Int)(d:List Int):Prop:=d.length=81∧∀ v∈d,lo≤v∧v≤1048576
theorem DOK.at{lo:Int}{d:List Int}(h:DOK lo d){a b:Nat}(ha:a<9)(hb:b<9):lo≤gD d a b∧gD d a b≤1048576:=h.2 _ (Bf (aBi h.1 ha hb))
theorem DOK.set{lo:Int}{d:List Int}(h:DOK lo d)(j:Nat){v:Int}(hv:lo≤v∧v≤1048576):DOK lo (d.set j v):=⟨by rw [nJ];exact h.1,fun x hx=>by
 rcases List.mem_or_eq_of_mem_set hx with hx | rfl
 ·exact h.2 x hx
 ·exact hv⟩
def aBj(M:Int)(k x y:Nat)(d:List Int):Prop:=d.length=81∧∀ a b,a<9→b<9→gD d a b≤1048576 ∧ -(6*M)≤gD d a b∧(a=k∨b=k → -(3*M)≤gD d a b)∧(a=k→b=k → -(2*M)≤gD d a b)∧(x<a∨x=a∧y≤b → -M≤gD d a b)
theorem aBj.step{M:Int}{k x y:Nat}{d:List Int}(hM:0≤M)(h:aBj M k x y d)(hk:k<9)(hx:x<9)(hy:y<9) :
  aBj M k x (y+1) (d.set ((0+(x*9))+(y*1)) (if gD d x k+gD d k y<gD d x y then gD d x k+gD d k y else gD d x y)):=by
 obtain ⟨hd,h⟩:=h;refine ⟨by rw [nJ];exact hd,fun a b ha hb => ?_⟩
 rw [bQr hd ha hb hx hy];have hab:=h a b ha hb
 by_cases e:a=x∧b=y
 ·obtain ⟨rfl,rfl⟩:=e
  rw [if_pos ⟨rfl,rfl⟩];have h1:=h a k ha hk;have h2:=h k b hk hb
  by_cases e1:a=k
  ·by_cases e2:b=k
   ·subst e1;subst e2
    split <;> refine ⟨by omega,by omega,fun _=>by omega,fun _ _=>by omega,fun q=>by omega⟩
   ·subst e1
    split <;> refine ⟨by omega,by omega,fun _=>by omega,fun _ q=>absurd q e2,fun q=>by omega⟩
  ·by_cases e2:b=k
   ·subst e2
    split <;> refine ⟨by omega,by omega,fun _=>by omega,fun q _=>absurd q e1,fun q=>by omega⟩
   ·split <;> refine ⟨by omega,by omega,fun q=>by omega,fun q _=>absurd q e1,fun q=>by omega⟩
 ·rw [if_neg e]
  exact ⟨hab.1,hab.2.1,hab.2.2.1,hab.2.2.2.1,fun q=>hab.2.2.2.2 (by omega)⟩
theorem DOK.rd{M:Int}{k:Nat}{d:List Int}(hM:0≤M)(h:DOK (-M) d):aBj M k 0 0 d:=⟨h.1,fun a b ha hb=>by
 have:=h.at ha hb
 exact ⟨by omega,by omega,fun _=>by omega,fun _ _=>by omega,fun _=>by omega⟩⟩
theorem aBj.line{M:Int}{k x y:Nat}{d:List Int}(h:aBj M k x y d):aBj M k (x+1) 0 d:=⟨h.1,fun a b ha hb=>by
 have:=h.2 a b ha hb;exact ⟨this.1,this.2.1,this.2.2.1,this.2.2.2.1,fun q=>this.2.2.2.2 (by omega)⟩⟩
theorem aBj.all{M:Int}{k x y:Nat}{d:List Int}(h:aBj M k x y d):DOK (-(6*M)) d:=⟨h.1,fun v hv=>by
 obtain ⟨i,hi,rfl⟩:=List.mem_iff_getElem.1 hv;have hd:=h.1;have q:=h.2 (i / 9) (i % 9) (by omega) (by omega)
 have e:gD d (i / 9) (i % 9)=d[i]:=by
  unfold gD;rw [Bj,show i / 9*9+i % 9=i by omega,Ap hi];rfl
 rw [e] at q
 exact ⟨q.2.1,q.1⟩⟩
theorem bJz:∀ k:Nat,k≤9→(100:Int)*6 ^ k≤1100000000∧0≤(100:Int)*6 ^ k:=by decide
theorem bQs{n:Nat}{L:List Lk}(hn:n≤8)(hL:∀ x∈L,bEm n x)(hl:L.length≤100):∃ (c:List Int) (b:Bool),c.length=81∧∀ base,FV Tp 142 [.p (aA (n:Int)),.p (.sl L.length ((L.map lnE).flatten))] base (.tup [.p (.agg (c.map aA)),.p (blP b)]) []:=by
 obtain ⟨d0,i0,l0⟩:=aF.some (P:=Tp) (k:=0) (b:=sub (cd Tryz.f142) ct) (e := .exit 0) (fun a (d:List Int)=>mH (n:Int) L a (d.map aA)) (fun a d=>DOK 0 d) (fun d=>mH (n:Int) L 9 (d.map aA)) (by simp) 9 (a0:=List.replicate 81 0) ⟨rfl,fun v hv=>by rw [List.eq_of_mem_replicate hv];decide⟩
  (fun a d ha hd=>by
   obtain ⟨d1,i1,l1⟩:=aF.some (P:=Tp) (k:=0) (b:=sub (cd Tryz.f142) [1,1,0,1,0,0,1,1,0,0,1,1,0,0]) (e := .exit 2) (fun b (d:List Int)=>mK (n:Int) L a b (d.map aA)) (fun b d=>DOK 0 d) (fun d=>mK (n:Int) L a 9 (d.map aA)) (by simp) 9 (a0:=d) hd
    (fun b d hb hd=>by
     have E3:=hd.1
     by_cases e:a=b
     ·exact ⟨d,hd,aXr (by omega) (by omega) (by show _∧_;omega) rfl⟩
     ·exact ⟨d.set ((0+(a*9))+(b*1)) 1048576,hd.set _ (by omega),aXq (by omega) (by omega) ⟨by omega,by omega⟩ ⟨by omega,by omega⟩ (by rw [A8];omega) (by show _∧_;omega) rfl List.map_set⟩)
    (fun d _=>aXs (by omega))
   exact ⟨d1,i1,aXh (by omega) l1 (by show _∧_;omega) rfl rfl⟩)
  (fun d _=>aXi (by omega))
 obtain ⟨d2,i2,l2⟩:=aF.some (P:=Tp) (k:=0) (b:=sub (cd Tryz.f142) cf) (e := .exit 4) (fun i (d:List Int)=>mI (n:Int) L i (d.map aA)) (fun i d=>DOK (-100) d) (fun d=>mI (n:Int) L L.length (d.map aA)) (by simp) L.length (a0:=d0) ⟨i0.1,fun v hv=>by have:=i0.2 v hv;omega⟩
  (fun i d hi hd=>by
   have E3:=hd.1;obtain ⟨hf,ht,hc⟩:=hL _ (eT hi);have hx:=Ap hi;generalize L[i]=x at hf ht hc hx
   obtain ⟨kd,ix,fr,to,cn⟩:=x;dsimp only at hf ht hc
   obtain ⟨f,rfl⟩:=Int.eq_ofNat_of_zero_le hf.1;obtain ⟨t,rfl⟩:=Int.eq_ofNat_of_zero_le ht.1;have hg:=aBi (d:=d) (a:=f) (b:=t) E3 (by omega) (by omega)
   have hb:=hd.at (a:=f) (b:=t) (by omega) (by omega)
   refine ⟨d.set ((0+(f*9))+(t*1)) (if cn<gD d f t then cn else gD d f t),hd.set _ (by split <;> omega),aXj (by omega) hx ⟨by omega,by omega⟩ ⟨by omega,by omega⟩ hg (by rw [A8,aOh,aOh];omega) (by show _∧_;omega) rfl List.map_set⟩)
  (fun d _=>aXk (by omega))
 obtain ⟨d3,i3,l3⟩:=aF.some (P:=Tp) (k:=0) (b:=sub (cd Tryz.f142) c6) (e := .exit 6) (fun k (d:List Int)=>mJ (n:Int) k (d.map aA)) (fun k d=>DOK (-(100*6 ^ k)) d) (fun d=>mJ (n:Int) (n+1) (d.map aA)) (by simp) (n+1) (a0:=d2) i2
  (fun k d hk hd=>by
   have hp:=bJz k (by omega)
   obtain ⟨d4,i4,l4⟩:=aF.some (P:=Tp) (k:=0) (b:=sub (cd Tryz.f142) [1,1,1,1,0,1,0,0,1,1,0,0,1,1,0,0]) (e := .exit 8) (fun x (d:List Int)=>qG (n:Int) k x (d.map aA)) (fun x d=>aBj (100*6 ^ k) k x 0 d) (fun d=>qG (n:Int) k (n+1) (d.map aA)) (by simp) (n+1) (a0:=d) (hd.rd hp.2)
    (fun x d hx hd=>by
     obtain ⟨d5,i5,l5⟩:=aF.some (P:=Tp) (k:=0) (b:=sub (cd Tryz.f142) ae) (e := .exit 10) (fun y (d:List Int)=>qH (n:Int) k x y (d.map aA)) (fun y d=>aBj (100*6 ^ k) k x y d) (fun d=>qH (n:Int) k x (n+1) (d.map aA)) (by simp) (n+1) (a0:=d) hd
      (fun y d hy hd=>by
       have E3:=hd.1;have b1:=hd.2 x k (by omega) (by omega)
       have b2:=hd.2 k y (by omega) (by omega)
       exact ⟨_,hd.step hp.2 (by omega) (by omega) (by omega),aXv (by omega) ⟨by omega,by omega⟩ ⟨by omega,by omega⟩ (aBi E3 (by omega) (by omega)) ⟨by omega,by omega⟩ (aBi E3 (by omega) (by omega)) (aBi E3 (by omega) (by omega)) (by show _∧_;omega) (by rw [A8];omega) (by show _∧_;omega) rfl List.map_set⟩)
      (fun d _=>aXw (by omega))
     exact ⟨d5,i5.line,aXt (by omega) (by show _∧_;omega) l5 (by show _∧_;omega) rfl rfl⟩)
    (fun d _=>aXu (by omega))
   have e6 : -(6*(100*6 ^ k)) = -((100:Int)*6 ^ (k+1)):=by rw [Int.pow_succ];omega
   exact ⟨d4,e6 ▸ i4.all,aXl (by omega) (by show _∧_;omega) l4 (by show _∧_;omega) rfl rfl⟩)
  (fun d _=>aXm (by omega))
 have E3:=i3.1;have hrep:((List.replicate 81 (0:Int)).map aA).length=81:=by rw [A8,List.length_replicate]
 rcases aF.find (P:=Tp) (k:=0) (b:=sub (cd Tryz.f142) bu) (fun z=>jJ (n:Int) d3 z ((List.replicate 81 (0:Int)).map aA)) (fun z _=>cC (jJ (n:Int) d3 z (d3.map aA)) [(5,.kb false)]) (jJ (n:Int) d3 (n+1) ((List.replicate 81 (0:Int)).map aA)) .ret (.exit 12) (by simp) (by simp) (fun z=>decide (gD d3 z z<0)) (List.range (n+1))
  (fun i x hx hp=>by
   obtain ⟨h1,rfl⟩:=A2.1 hx;rw [aDj] at h1
   rw [List.getElem_range] at hp
   exact aXo (by omega) ⟨by omega,by omega⟩ (aBi E3 (by omega) (by omega)) (by simpa using hp) (by show _∧_;omega) rfl)
  (fun i x hx hp=>by
   obtain ⟨h1,rfl⟩:=A2.1 hx;rw [aDj] at h1
   rw [List.getElem_range] at hp
   exact aXn (by omega) ⟨by omega,by omega⟩ (aBi E3 (by omega) (by omega)) (by simpa using hp) E3 ⟨by rw [A8];exact E3,by rw [hrep];omega⟩ (by rw [List.take_zero,List.nil_append,List.drop_of_length_le (by rw [hrep];omega),List.append_nil]))
  (by rw [aDj];exact aXp (by omega)) with ⟨z,x,_,_,_,l6⟩ | ⟨_,_,l6⟩
 ·exact ⟨d3,false,E3,fun base=>bQu l0 l2 (by show _∧_;omega) l3 l6 E3⟩
 ·exact ⟨d3,true,E3,fun base=>bQt l0 l2 (by show _∧_;omega) l3 l6 E3 ⟨by rw [A8];exact E3,by rw [hrep];omega⟩⟩
end
section
variable {r0:Bool}{n dl hi lo x0 x1 x2 x3 x4 x5 Ah Aa Ab:Int}{dc sk:Lqq}{l m o o' Od Gk:List Int}{i i' Aw base:Nat}

noncomputable abbrev aBq:Code:=sub (cd Tryz.f203) [1,1,0,1,0,0]
noncomputable abbrev aTm:Code:=sub (cd Tryz.f135) [1,1,0,1,0,0]
noncomputable abbrev aTn:Code:=sub (cd Tryz.f204) [1,1,0,1,0,0]
theorem bXg(h0:lo≤n)(Ak:r0=(decide (n≤hi))):FV Tp 198 [(pI n),(pI lo),(pI hi)] base (pB r0) []:=by
 subst Ak;exact FV.fi func198 [bT,bT,bT,bT] (A3 (aWq h0) gn)
theorem bXh(h0:n<lo):FV Tp 198 [(pI n),(pI lo),(pI hi)] base (pB false) []:=FV.fi func198 [bF,bF,bF,bF] (A3 (pZ h0) gn)
theorem bK(n lo hi:Int){base:Nat}:FV Tp 198 [.p (aA n),.p (aA lo),.p (aA hi)] base (pB (within n lo hi)) []:=by
 by_cases h:lo≤n
 ·exact bXg h (by simp [within,h])
 ·have e:within n lo hi=false:=by simp [within,h]
  rw [e];exact bXh (show n<lo by omega)
theorem bRw{k:Int}(Ak:r0=(decide (k≤4))):FV Tp 180 [(pI k)] base (pB r0) []:=by
 subst Ak;exact FV.fi func180 [] gn
theorem dQ(k:Int){base:Nat}:FV Tp 180 [.p (aA k)] base (pB (decide (k≤4))) []:=bRw rfl
theorem bRx(h0:(within x0 1 999)=true)(Ak:r0=(within x1 (-1) 360000)):FV Tp 200 [(.p (.agg [(aA x0),(aA x1)]))] base (pB r0) []:=by
 subst Ak;have k1:=fk 1 (bK x0 1 999) rfl;have k2:=fk 1 (bK x1 (-1) 360000) rfl;exact FV.fi func200 [k1.o,bT,bT,bT,k2.o,bT] (gc h0 (gc k2 (Ar h0 (gc k1 gn))))
theorem bRy(h0:(within x0 1 999)=false):FV Tp 200 [(.p (.agg [(aA x0),(aA x1)]))] base (pB false) []:=have k1:=fk 1 (bK x0 1 999) rfl;FV.fi func200 [k1.o,bF,bF,bF,bF] (A3 h0 (gc k1 gn))
def skB(x:List Int):Bool:=within (x.getD 0 0) 1 999 && within (x.getD 1 0) (-1) 360000
theorem bRz(x0 x1:Int){base:Nat}:FV Tp 200 [.p (.agg [aA x0,aA x1])] base (pB (skB [x0,x1])) []:=by
 cases h:within x0 1 999 with
 | true=>exact bRx h (show (within x0 1 999 && _)=_ by rw [h];rfl)
 | false=>rw [show skB [x0,x1]=false from show (within x0 1 999 && _)=_ by rw [h];rfl];exact bRy h
def jX(k:Int):Int:=if k=3∨¬ k≤4∧k≠6 then 0 else 36000
def dcB(x:List Int):Bool:=within (x.getD 0 0) 1 9999 && (within (x.getD 1 0) 0 9 && (within (x.getD 2 0) 0 10000 && within (x.getD 4 0) 0 (jX (x.getD 1 0))))
abbrev dcE(a b c d e f:Int):PV := .agg [aA a,aA b,aA c,aA d,aA e,aA f]
theorem gJ(a b c d e f:Int):dcB [a,b,c,d,e,f]=(within a 1 9999 && (within b 0 9 && (within c 0 10000 && within e 0 (jX b)))):=rfl
section
variable(h0:x1=3)(h1:(within x0 1 9999)=true)
include h0 h1
theorem bSa(h2:(within x1 0 9)=true)(h3:(within x2 0 10000)=true)(Ak:r0=(within x4 0 0)):FV Tp 202 [(.p (.agg [(aA x0),(aA x1),(aA x2),(aA x3),(aA x4),(aA x5)]))] base (pB r0) []:=by
 subst Ak;have k1:=fk 1 (bK x0 1 9999) rfl;have k2:=fk 1 (bK x1 0 9) rfl;have k3:=fk 1 (bK x2 0 10000) rfl;have k4:=fk 1 (bK x4 0 0) rfl;exact FV.fi func202 (rT 7++[k1.o,bT,bT,bT,k2.o,bT,bT,bT,bT,k3.o]++rT 5++[k4.o,bT]) (gc h3 (gc k4 (A3 h3 (gc h2 (gc k3 (Ar h2 (gc h1 (gc k2 (Ar h1 (gc k1 (G8 (eP h0) gn)))))))))))
theorem bSb(h2:(within x1 0 9)=true)(h3:(within x2 0 10000)=false):FV Tp 202 [(.p (.agg [(aA x0),(aA x1),(aA x2),(aA x3),(aA x4),(aA x5)]))] base (pB false) []:=have k1:=fk 1 (bK x0 1 9999) rfl;have k2:=fk 1 (bK x1 0 9) rfl;have k3:=fk 1 (bK x2 0 10000) rfl;FV.fi func202 (rT 7++[k1.o,bT,bT,bT,k2.o,bT,bT,bT,bT,k3.o,bT]++rF 5) (Cn h3 (gc h2 (gc k3 (Ar h2 (gc h1 (gc k2 (Ar h1 (gc k1 (G8 (eP h0) gn)))))))))
theorem bSc(h2:(within x1 0 9)=false):FV Tp 202 [(.p (.agg [(aA x0),(aA x1),(aA x2),(aA x3),(aA x4),(aA x5)]))] base (pB false) []:=have k1:=fk 1 (bK x0 1 9999) rfl;have k2:=fk 1 (bK x1 0 9) rfl;FV.fi func202 (rT 7++[k1.o,bT,bT,bT,k2.o,bT,bF,bF,bF,bF]) (A3 h2 (gc h1 (gc k2 (Ar h1 (gc k1 (G8 (eP h0) gn))))))
end
theorem bSd(h0:x1=3)(h1:(within x0 1 9999)=false):FV Tp 202 [(.p (.agg [(aA x0),(aA x1),(aA x2),(aA x3),(aA x4),(aA x5)]))] base (pB false) []:=have k1:=fk 1 (bK x0 1 9999) rfl;FV.fi func202 (rT 7++[k1.o,bF,bF,bF,bF]) (A3 h1 (gc k1 (G8 (eP h0) gn)))
section
variable(h0:x1≠3)(h1:(decide (x1≤4))=false)
include h0 h1
theorem bSe(h2:x1≠6)(h3:(within x0 1 9999)=true)(h4:(within x1 0 9)=true)(h5:(within x2 0 10000)=true)(Ak:r0=(within x4 0 0)):FV Tp 202 [(.p (.agg [(aA x0),(aA x1),(aA x2),(aA x3),(aA x4),(aA x5)]))] base (pB r0) []:=by
 subst Ak;have k1:=fk 1 (dQ x1) rfl;have k2:=fk 1 (bK x0 1 9999) rfl;have k3:=fk 1 (bK x1 0 9) rfl;have k4:=fk 1 (bK x2 0 10000) rfl;have k5:=fk 1 (bK x4 0 0) rfl;exact FV.fi func202 ([bF,bF,bF,k1.o,bF,bF,bT,bT,bT,bF,bT,bF,bT,k2.o,bT,bT,bT,k3.o,bT,bT,bT,bT,k4.o]++rT 5++[k5.o,bT]) (gc h5 (gc k5 (A3 h5 (gc h4 (gc k4 (Ar h4 (gc h3 (gc k3 (Ar h3 (gc k2 (gc (sQ h2) (gc (bL h0) (gc (bZ h1) (gc (bL h0) (Ar (bZ h1) (Bc (bL h0) (gc k1 (Ar (bL h0) gn))))))))))))))))))
theorem bSf(h2:x1≠6)(h3:(within x0 1 9999)=true)(h4:(within x1 0 9)=true)(h5:(within x2 0 10000)=false):FV Tp 202 [(.p (.agg [(aA x0),(aA x1),(aA x2),(aA x3),(aA x4),(aA x5)]))] base (pB false) []:=have k1:=fk 1 (dQ x1) rfl;have k2:=fk 1 (bK x0 1 9999) rfl;have k3:=fk 1 (bK x1 0 9) rfl;have k4:=fk 1 (bK x2 0 10000) rfl;FV.fi func202 ([bF,bF,bF,k1.o,bF,bF,bT,bT,bT,bF,bT,bF,bT,k2.o,bT,bT,bT,k3.o,bT,bT,bT,bT,k4.o,bT]++rF 5) (Cn h5 (gc h4 (gc k4 (Ar h4 (gc h3 (gc k3 (Ar h3 (gc k2 (gc (sQ h2) (gc (bL h0) (gc (bZ h1) (gc (bL h0) (Ar (bZ h1) (Bc (bL h0) (gc k1 (Ar (bL h0) gn))))))))))))))))
theorem bSg(h2:x1≠6)(h3:(within x0 1 9999)=true)(h4:(within x1 0 9)=false):FV Tp 202 [(.p (.agg [(aA x0),(aA x1),(aA x2),(aA x3),(aA x4),(aA x5)]))] base (pB false) []:=have k1:=fk 1 (dQ x1) rfl;have k2:=fk 1 (bK x0 1 9999) rfl;have k3:=fk 1 (bK x1 0 9) rfl;FV.fi func202 [bF,bF,bF,k1.o,bF,bF,bT,bT,bT,bF,bT,bF,bT,k2.o,bT,bT,bT,k3.o,bT,bF,bF,bF,bF] (A3 h4 (gc h3 (gc k3 (Ar h3 (gc k2 (gc (sQ h2) (gc (bL h0) (gc (bZ h1) (gc (bL h0) (Ar (bZ h1) (Bc (bL h0) (gc k1 (Ar (bL h0) gn)))))))))))))
theorem bSh(h2:x1≠6)(h3:(within x0 1 9999)=false):FV Tp 202 [(.p (.agg [(aA x0),(aA x1),(aA x2),(aA x3),(aA x4),(aA x5)]))] base (pB false) []:=have k1:=fk 1 (dQ x1) rfl;have k2:=fk 1 (bK x0 1 9999) rfl;FV.fi func202 [bF,bF,bF,k1.o,bF,bF,bT,bT,bT,bF,bT,bF,bT,k2.o,bF,bF,bF,bF] (A3 h3 (gc k2 (gc (sQ h2) (gc (bL h0) (gc (bZ h1) (gc (bL h0) (Ar (bZ h1) (Bc (bL h0) (gc k1 (Ar (bL h0) gn))))))))))
theorem bSi(h2:x1=6)(h3:(within x0 1 9999)=true)(h4:(within x1 0 9)=true)(h5:(within x2 0 10000)=true)(Ak:r0=(within x4 0 36000)):FV Tp 202 [(.p (.agg [(aA x0),(aA x1),(aA x2),(aA x3),(aA x4),(aA x5)]))] base (pB r0) []:=by
 subst Ak;have k1:=fk 1 (dQ x1) rfl;have k2:=fk 1 (bK x0 1 9999) rfl;have k3:=fk 1 (bK x1 0 9) rfl;have k4:=fk 1 (bK x2 0 10000) rfl;have k5:=fk 1 (bK x4 0 36000) rfl;exact FV.fi func202 ([bF,bF,bF,k1.o,bF,bF,bT,bT,bT,bF,bT,bF,bF,k2.o,bT,bT,bT,k3.o,bT,bT,bT,bT,k4.o]++rT 5++[k5.o,bT]) (gc h5 (gc k5 (A3 h5 (gc h4 (gc k4 (Ar h4 (gc h3 (gc k3 (Ar h3 (gc k2 (gc (iI h2) (gc (bL h0) (gc (bZ h1) (gc (bL h0) (Ar (bZ h1) (Bc (bL h0) (gc k1 (Ar (bL h0) gn))))))))))))))))))
theorem bSj(h2:x1=6)(h3:(within x0 1 9999)=true)(h4:(within x1 0 9)=true)(h5:(within x2 0 10000)=false):FV Tp 202 [(.p (.agg [(aA x0),(aA x1),(aA x2),(aA x3),(aA x4),(aA x5)]))] base (pB false) []:=have k1:=fk 1 (dQ x1) rfl;have k2:=fk 1 (bK x0 1 9999) rfl;have k3:=fk 1 (bK x1 0 9) rfl;have k4:=fk 1 (bK x2 0 10000) rfl;FV.fi func202 ([bF,bF,bF,k1.o,bF,bF,bT,bT,bT,bF,bT,bF,bF,k2.o,bT,bT,bT,k3.o,bT,bT,bT,bT,k4.o,bT]++rF 5) (Cn h5 (gc h4 (gc k4 (Ar h4 (gc h3 (gc k3 (Ar h3 (gc k2 (gc (iI h2) (gc (bL h0) (gc (bZ h1) (gc (bL h0) (Ar (bZ h1) (Bc (bL h0) (gc k1 (Ar (bL h0) gn))))))))))))))))
theorem bKz(h2:x1=6)(h3:(within x0 1 9999)=true)(h4:(within x1 0 9)=false):FV Tp 202 [(.p (.agg [(aA x0),(aA x1),(aA x2),(aA x3),(aA x4),(aA x5)]))] base (pB false) []:=have k1:=fk 1 (dQ x1) rfl;have k2:=fk 1 (bK x0 1 9999) rfl;have k3:=fk 1 (bK x1 0 9) rfl;FV.fi func202 [bF,bF,bF,k1.o,bF,bF,bT,bT,bT,bF,bT,bF,bF,k2.o,bT,bT,bT,k3.o,bT,bF,bF,bF,bF] (A3 h4 (gc h3 (gc k3 (Ar h3 (gc k2 (gc (iI h2) (gc (bL h0) (gc (bZ h1) (gc (bL h0) (Ar (bZ h1) (Bc (bL h0) (gc k1 (Ar (bL h0) gn)))))))))))))
theorem bLa(h2:x1=6)(h3:(within x0 1 9999)=false):FV Tp 202 [(.p (.agg [(aA x0),(aA x1),(aA x2),(aA x3),(aA x4),(aA x5)]))] base (pB false) []:=have k1:=fk 1 (dQ x1) rfl;have k2:=fk 1 (bK x0 1 9999) rfl;FV.fi func202 [bF,bF,bF,k1.o,bF,bF,bT,bT,bT,bF,bT,bF,bF,k2.o,bF,bF,bF,bF] (A3 h3 (gc k2 (gc (iI h2) (gc (bL h0) (gc (bZ h1) (gc (bL h0) (Ar (bZ h1) (Bc (bL h0) (gc k1 (Ar (bL h0) gn))))))))))
end
section
variable(h0:x1≠3)(h1:(decide (x1≤4))=true)(h2:(within x0 1 9999)=true)
include h0 h1 h2
theorem bLb(h3:(within x1 0 9)=true)(h4:(within x2 0 10000)=true)(Ak:r0=(within x4 0 36000)):FV Tp 202 [(.p (.agg [(aA x0),(aA x1),(aA x2),(aA x3),(aA x4),(aA x5)]))] base (pB r0) []:=by
 subst Ak;have k1:=fk 1 (dQ x1) rfl;have k2:=fk 1 (bK x0 1 9999) rfl;have k3:=fk 1 (bK x1 0 9) rfl;have k4:=fk 1 (bK x2 0 10000) rfl;have k5:=fk 1 (bK x4 0 36000) rfl;exact FV.fi func202 ([bF,bF,bF,k1.o]++rF 8++[k2.o,bT,bT,bT,k3.o,bT,bT,bT,bT,k4.o]++rT 5++[k5.o,bT]) (gc h4 (gc k5 (A3 h4 (gc h3 (gc k4 (Ar h3 (gc h2 (gc k3 (Ar h2 (gc k2 (gc (bL h0) (gc (aV h1) (gc (bL h0) (Ar (aV h1) (Bc (bL h0) (gc k1 (Ar (bL h0) gn)))))))))))))))))
theorem bLc(h3:(within x1 0 9)=true)(h4:(within x2 0 10000)=false):FV Tp 202 [(.p (.agg [(aA x0),(aA x1),(aA x2),(aA x3),(aA x4),(aA x5)]))] base (pB false) []:=have k1:=fk 1 (dQ x1) rfl;have k2:=fk 1 (bK x0 1 9999) rfl;have k3:=fk 1 (bK x1 0 9) rfl;have k4:=fk 1 (bK x2 0 10000) rfl;FV.fi func202 ([bF,bF,bF,k1.o]++rF 8++[k2.o,bT,bT,bT,k3.o,bT,bT,bT,bT,k4.o,bT]++rF 5) (Cn h4 (gc h3 (gc k4 (Ar h3 (gc h2 (gc k3 (Ar h2 (gc k2 (gc (bL h0) (gc (aV h1) (gc (bL h0) (Ar (aV h1) (Bc (bL h0) (gc k1 (Ar (bL h0) gn)))))))))))))))
theorem bLd(h3:(within x1 0 9)=false):FV Tp 202 [(.p (.agg [(aA x0),(aA x1),(aA x2),(aA x3),(aA x4),(aA x5)]))] base (pB false) []:=have k1:=fk 1 (dQ x1) rfl;have k2:=fk 1 (bK x0 1 9999) rfl;have k3:=fk 1 (bK x1 0 9) rfl;FV.fi func202 ([bF,bF,bF,k1.o]++rF 8++[k2.o,bT,bT,bT,k3.o,bT,bF,bF,bF,bF]) (A3 h3 (gc h2 (gc k3 (Ar h2 (gc k2 (gc (bL h0) (gc (aV h1) (gc (bL h0) (Ar (aV h1) (Bc (bL h0) (gc k1 (Ar (bL h0) gn))))))))))))
end
theorem bLe(h0:x1≠3)(h1:(decide (x1≤4))=true)(h2:(within x0 1 9999)=false):FV Tp 202 [(.p (.agg [(aA x0),(aA x1),(aA x2),(aA x3),(aA x4),(aA x5)]))] base (pB false) []:=have k1:=fk 1 (dQ x1) rfl;have k2:=fk 1 (bK x0 1 9999) rfl;FV.fi func202 ([bF,bF,bF,k1.o]++rF 8++[k2.o,bF,bF,bF,bF]) (A3 h2 (gc k2 (gc (bL h0) (gc (aV h1) (gc (bL h0) (Ar (aV h1) (Bc (bL h0) (gc k1 (Ar (bL h0) gn)))))))))
theorem bSk(x0 x1 x2 x3 x4 x5:Int){base:Nat}:FV Tp 202 [.p (dcE x0 x1 x2 x3 x4 x5)] base (pB (dcB [x0,x1,x2,x3,x4,x5])) []:=by
 by_cases h3:x1=3
 ·have hm:jX x1=0:=by unfold jX;rw [if_pos (.inl h3)]
  cases Ci:within x0 1 9999 with
  | false=>rw [gJ,Ci,Bool.false_and];exact bSd h3 Ci
  | true =>
  cases Dd:within x1 0 9 with
  | false=>rw [gJ,Ci,Dd,gU,Bool.false_and];exact bSc h3 Ci Dd
  | true =>
  cases Ec:within x2 0 10000 with
  | false=>rw [gJ,Ci,Dd,Ec,gU,gU,Bool.false_and];exact bSb h3 Ci Dd Ec
  | true =>
  rw [gJ,Ci,Dd,Ec,gU,gU,gU,hm];exact bSa h3 Ci Dd Ec rfl
 by_cases h4:x1≤4
 ·have hm:jX x1=36000:=by unfold jX;rw [if_neg (by omega)]
  have Gn:decide (x1≤4)=true:=by simpa using h4
  cases Ci:within x0 1 9999 with
  | false=>rw [gJ,Ci,Bool.false_and];exact bLe h3 Gn Ci
  | true =>
  cases Dd:within x1 0 9 with
  | false=>rw [gJ,Ci,Dd,gU,Bool.false_and];exact bLd h3 Gn Ci Dd
  | true =>
  cases Ec:within x2 0 10000 with
  | false=>rw [gJ,Ci,Dd,Ec,gU,gU,Bool.false_and];exact bLc h3 Gn Ci Dd Ec
  | true =>
  rw [gJ,Ci,Dd,Ec,gU,gU,gU,hm];exact bLb h3 Gn Ci Dd Ec rfl
 have Gn:decide (x1≤4)=false:=by simpa using h4
 by_cases h6:x1=6
 ·have hm:jX x1=36000:=by unfold jX;rw [if_neg (by omega)]
  cases Ci:within x0 1 9999 with
  | false=>rw [gJ,Ci,Bool.false_and];exact bLa h3 Gn h6 Ci
  | true =>
  cases Dd:within x1 0 9 with
  | false=>rw [gJ,Ci,Dd,gU,Bool.false_and];exact bKz h3 Gn h6 Ci Dd
  | true =>
  cases Ec:within x2 0 10000 with
  | false=>rw [gJ,Ci,Dd,Ec,gU,gU,Bool.false_and];exact bSj h3 Gn h6 Ci Dd Ec
  | true =>
  rw [gJ,Ci,Dd,Ec,gU,gU,gU,hm];exact bSi h3 Gn h6 Ci Dd Ec rfl
 have hm:jX x1=0:=by unfold jX;rw [if_pos (by omega)]
 cases Ci:within x0 1 9999 with
 | false=>rw [gJ,Ci,Bool.false_and];exact bSh h3 Gn h6 Ci
 | true =>
 cases Dd:within x1 0 9 with
 | false=>rw [gJ,Ci,Dd,gU,Bool.false_and];exact bSg h3 Gn h6 Ci Dd
 | true =>
 cases Ec:within x2 0 10000 with
 | false=>rw [gJ,Ci,Dd,Ec,gU,gU,Bool.false_and];exact bSf h3 Gn h6 Ci Dd Ec
 | true =>
 rw [gJ,Ci,Dd,Ec,gU,gU,gU,hm];exact bSe h3 Gn h6 Ci Dd Ec rfl

def lX(l:List Int)(i:Nat)(me:List (Value × PV))(mk:Nat):St:=⟨fr 19 [(3,(.mp 0)),(7,(.p (aG l))),(8,(pI (l.length:Int))),(9,(pI (i:Int)))],[some (.mp me mk)]⟩
theorem bXi(hl0:aF Tp 0 aBq (lX l 0 [] 0) (.exit 0) (lX l Aw (eA Od) Od.length)):FV Tp 203 [(.p (aG l))] base (pB false) []:=FV.fi func203 [hl0.k 8 (gI co [0])] (gc hl0.code gn)
theorem bXj(hl0:aF Tp 0 aBq (lX l 0 [] 0) .ret (cC (lX l Aw (eA Od) Od.length) [(2,(.kb true))])):FV Tp 203 [(.p (aG l))] base (pB true) []:=FV.fi func203 [hl0.k 8 (gI co [0])] (gc hl0.code gn)
section
variable(h0:(i:Int)<(l.length:Int))(h1:l[i]? = some Ah)(h2:bV .i64 (eA m) (.int .i64 Ah))
include h0 h1 h2
theorem bEv{Ab:Bool}(h3:(cV (eA m) (.int .i64 Ah))=true)(h4:eL (eA m) (.int .i64 Ah)=some (blP Ab))(h5:Ab=true):aC Tp 0 aBq (lX l i (eA m) m.length) .ret (cC (lX l i (eA m) m.length) [(2,(.kb true))]):=aC.fi (gI cq [0]) [bT,.x (aA Ah),bT,.x (blP Ab),bT] (gc h5 (gc h4 (gc h3 (gc h2 (gc (atm aA h1) (gc (ixn aA h1) (g0 h0)))))))
theorem bEw{m':List Int}(h3:(cV (eA m) (.int .i64 Ah))=false)(h4:da i)(Ai:i'=(i+1))(Pw:eA m'=((eA m)++[((.int .i64 Ah),(blP true))]))(Px:m'.length=(m.length+1)):aC Tp 0 aBq (lX l i (eA m) m.length) .normal (lX l i' (eA m') m'.length):=by
 subst Ai;rw [Pw,Px];exact aC.fi (gI co [0]) [bT,.x (aA Ah),bF,bF,bF] (gc h4 (gc h3 (gc h2 (gf (gc h3 (gc h2 (gc (atm aA h1) (gc (ixn aA h1) (g0 h0)))))))))
end
theorem bEx(h0:(l.length:Int)≤(i:Int)):aC Tp 0 aBq (lX l i (eA m) m.length) (.exit 0) (lX l i (eA m) m.length):=aC.fi (gI co [0]) [bF] (gc (bA h0) gn)
def qP(sk:Lqq)(i on:Nat)(oc:List PV):St:=⟨fr 20 [(2,(.p dY)),(3,(.own 0)),(7,(.p (fS sk))),(8,(pI (sk.length:Int))),(9,(pI (i:Int)))],[some (.row 3 on oc)]⟩
theorem bSl(hl0:aF Tp 0 aTm (qP sk 0 0 []) (.exit 0) (qP sk Aw Gk.length (Gk.map aA))):FV Tp 135 [(.p (.agg [(aA dl),(fS sk),(fS dc)]))] base (.own base) [(base,(.row 3 Gk.length (Gk.map aA)))]:=FV.fi func135 [hl0.k 8 (gN cq [1] [(3,3)])] (gc hl0.code gn)
theorem aYf(h0:(i:Int)<(sk.length:Int))(h1:sk[i]? = some [Aa,Ab])(h2:uni 2 sk)(h3:[(aA Aa)].length=1*1∧o.length+1≤1000000)(h4:da i)(Ai:i'=(i+1))(Cs:o'.length=(o.length+1))(Ct:o'.map aA=((o.map aA)++[(aA Aa)])):aC Tp 0 aTm (qP sk i o.length (o.map aA)) .normal (qP sk i' o'.length (o'.map aA)):=by
 subst Ai;rw [Cs,Ct];exact aC.fi (gI cq [3]) [bT,.x (.agg [(aA Aa),(aA Ab)])] (gc h4 (gc h3 (gfl h2 h1 (g0 h0))))
theorem aYg(h0:(sk.length:Int)≤(i:Int)):aC Tp 0 aTm (qP sk i o.length (o.map aA)) (.exit 0) (qP sk i o.length (o.map aA)):=aC.fi (gI cq [0]) [bF] (gc (bA h0) gn)
def qQ(dc:Lqq)(i on:Nat)(oc:List PV):St:=⟨fr 20 [(2,(.p dY)),(3,(.own 0)),(7,(.p (fS dc))),(8,(pI (dc.length:Int))),(9,(pI (i:Int)))],[some (.row 3 on oc)]⟩
theorem bSm(hl0:aF Tp 0 aTn (qQ dc 0 0 []) (.exit 0) (qQ dc Aw Gk.length (Gk.map aA))):FV Tp 204 [(.p (.agg [(aA dl),(fS sk),(fS dc)]))] base (.own base) [(base,(.row 3 Gk.length (Gk.map aA)))]:=FV.fi func204 [hl0.k 8 (gN cq [1] [(3,3)])] (gc hl0.code gn)
theorem aYh{Ac Ad Ae Af:Int}(h0:(i:Int)<(dc.length:Int))(h1:dc[i]? = some [Aa,Ab,Ac,Ad,Ae,Af])(h2:uni 6 dc)(h3:[(aA Aa)].length=1*1∧o.length+1≤1000000)(h4:da i)(Ai:i'=(i+1))(Cs:o'.length=(o.length+1))(Ct:o'.map aA=((o.map aA)++[(aA Aa)])):aC Tp 0 aTn (qQ dc i o.length (o.map aA)) .normal (qQ dc i' o'.length (o'.map aA)):=by
 subst Ai;rw [Cs,Ct];exact aC.fi (gI cq [3]) [bT,.x (.agg [(aA Aa),(aA Ab),(aA Ac),(aA Ad),(aA Ae),(aA Af)])] (gc h4 (gc h3 (gfl h2 h1 (g0 h0))))
theorem aYi(h0:(dc.length:Int)≤(i:Int)):aC Tp 0 aTn (qQ dc i o.length (o.map aA)) (.exit 0) (qQ dc i o.length (o.map aA)):=aC.fi (gI cq [0]) [bF] (gc (bA h0) gn)
theorem aTo(l:List Int)(hl:l.length≤1000)(hb:∀ x∈l,-1000000≤x∧x≤1000000):∀ (d i:Nat),i+d=l.length→(l.take i).Nodup →
  (l.Nodup∧aF Tp 0 aBq (lX l i (eA (l.take i)) (l.take i).length) (.exit 0) (lX l l.length (eA l) l.length))∨(¬ l.Nodup∧∃ i' m',aF Tp 0 aBq (lX l i (eA (l.take i)) (l.take i).length) .ret (cC (lX l i' (eA m') m'.length) [(2,.kb true)]))
 | 0,i,h,hn=>by
  obtain rfl:i=l.length:=by omega
  rw [List.take_length] at hn ⊢
  exact .inl ⟨hn,.exit (bEx (by omega)) (by simp)⟩
 | d+1,i,h,hn=>by
  have hi:i<l.length:=by omega
  have hx:l[i]? = some l[i]:=Ap hi;have et:l.take (i+1)=l.take i++[l[i]]:=by rw [List.take_add_one,hx];rfl
  have hk:=aPb hn (fun x hx=>hb x (List.mem_of_mem_take hx)) (hb _ (eT hi))
  by_cases hm:l[i]∈l.take i
  ·refine .inr ⟨fun hnd => ?_,i,l.take i,.exit (bEv (by omega) hx hk (bEp hm) (aYd hm) rfl) (by simp)⟩
   obtain ⟨j,hj,e⟩:=List.mem_iff_getElem.1 hm;rw [nI] at hj
   rw [List.getElem_take] at e
   exact List.pairwise_iff_getElem.1 hnd j i (by omega) hi (by omega) e
  ·have Kt:(l.take (i+1)).Nodup:=by
    rw [et,List.nodup_append];exact ⟨hn,by simp,fun a ha b hb e=>hm (by simp at hb;rw [← hb,← e];exact ha)⟩
   have hstep:=bEw (m:=l.take i) (m':=l.take (i+1)) (i':=i+1) (by omega) hx hk (bEo hm) (aM (by omega)) rfl (by rw [et,aPa]) (by simp;omega)
   rcases aTo l hl hb d (i+1) (by omega) Kt with ⟨q1,q2⟩ | ⟨q1,i',m',q2⟩
   ·exact .inl ⟨q1,.step hstep q2⟩
   ·exact .inr ⟨q1,i',m',.step hstep q2⟩
theorem vD(l:List Int)(hl:l.length≤1000)(hb:∀ x∈l,-1000000≤x∧x≤1000000){base:Nat}:FV Tp 203 [.p (aG l)] base (pB (!decide l.Nodup)) []:=by
 rcases aTo l hl hb l.length 0 (by omega) (by simp) with ⟨q1,q2⟩ | ⟨q1,i',m',q2⟩
 ·rw [decide_eq_true q1];exact bXi q2
 ·rw [decide_eq_false q1];exact bXj q2
theorem mM(dl:Int)(sk dc:Lqq)(h:uni 2 sk∧sk.length≤1000){base:Nat}:FV Tp 135 [.p (.agg [aA dl,.sl sk.length (sk.flatten.map aA),.sl dc.length (dc.flatten.map aA)])] base (.own base) [(base,.row 3 (aL sk 0).length ((aL sk 0).map aA))]:=by
 obtain ⟨hu,hl⟩:=h;have L:=aF.count (P:=Tp) (k:=0) (b:=aTm) (e := .exit 0) (R:=qP sk sk.length (aL sk 0).length ((aL sk 0).map aA)) sk.length (fun i=>qP sk i (aL (sk.take i) 0).length ((aL (sk.take i) 0).map aA))
  (fun i B2=>by
   obtain ⟨a,b,hx⟩:=at2 hu B2;have et:sk.take (i+1)=sk.take i++[[a,b]]:=by rw [List.take_add_one,hx];rfl
   exact aYf (o:=aL (sk.take i) 0) (o':=aL (sk.take (i+1)) 0) (by omega) hx hu ⟨rfl,by simp [aL];omega⟩ (aM (by omega)) rfl (by simp [aL];omega) (by rw [et];simp [aL]))
  (by rw [List.take_length];exact aYg (by omega)) (by simp)
 exact bSl L
theorem aHn(dl:Int)(sk dc:Lqq)(h:uni 6 dc∧dc.length≤1000){base:Nat}:FV Tp 204 [.p (.agg [aA dl,.sl sk.length (sk.flatten.map aA),.sl dc.length (dc.flatten.map aA)])] base (.own base) [(base,.row 3 (aL dc 0).length ((aL dc 0).map aA))]:=by
 obtain ⟨hu,hl⟩:=h;have L:=aF.count (P:=Tp) (k:=0) (b:=aTn) (e := .exit 0) (R:=qQ dc dc.length (aL dc 0).length ((aL dc 0).map aA)) dc.length (fun i=>qQ dc i (aL (dc.take i) 0).length ((aL (dc.take i) 0).map aA))
  (fun i B2=>by
   obtain ⟨a,b,c,d,e,g,hx⟩:=R3 hu B2;have et:dc.take (i+1)=dc.take i++[[a,b,c,d,e,g]]:=by rw [List.take_add_one,hx];rfl
   exact aYh (o:=aL (dc.take i) 0) (o':=aL (dc.take (i+1)) 0) (by omega) hx hu ⟨rfl,by simp [aL];omega⟩ (aM (by omega)) rfl (by simp [aL];omega) (by rw [et];simp [aL]))
  (by rw [List.take_length];exact aYi (by omega)) (by simp)
 exact bSm L
end
section
variable {r0:Bool}{v dl x0 x1 x2 x3 x4 x5 Ah Aa Ab Ac Ad Ae Af:Int}{l dc sk:Lqq}{i i' Aw base:Nat}
variable {dl:Int}{sk dc:Lqq}

noncomputable abbrev jC:Code:=sub (cd Tryz.f277) [1,0,1,0,0]
noncomputable abbrev aFc:Code:=sub (cd Tryz.f20) [1,0,1,0,0]
noncomputable abbrev aFd:Code:=sub (cd Tryz.f276) [1,0,1,0,0]
def gH(l:List Int)(v:Int)(i:Nat):St:=⟨fr 19 [(0,(.p (aG l))),(1,(pI v)),(7,(pI (l.length:Int))),(8,(pI (i:Int)))],[]⟩
theorem bEs{l:List Int}(hl0:aF Tp 0 aFc (gH l v 0) (.exit 0) (gH l v Aw)):FV Tp 20 [(.p (aG l)),(pI v)] base (pI (-1)) []:=FV.fi func20 [hl0.k 6 (gZ cx)] (gc hl0.code gn)
theorem bEt{l:List Int}(hl0:aF Tp 0 aFc (gH l v 0) .ret (cC (gH l v Aw) [(4,(pI (Aw:Int)))])):FV Tp 20 [(.p (aG l)),(pI v)] base (pI (Aw:Int)) []:=FV.fi func20 [hl0.k 6 (gZ cx)] (gc hl0.code gn)
section
variable{l:List Int}(h0:(i:Int)<(l.length:Int))(h1:l[i]? = some Ah)
include h0 h1
theorem aFe(h2:v=Ah):aC Tp 0 aFc (gH l v i) .ret (cC (gH l v i) [(4,(pI (i:Int)))]):=aC.fi (gZ cr) [bT,.x (aA Ah),bT] (gc (eP h2) (gc (atm aA h1) (gc (ixn aA h1) (g0 h0))))
theorem aFf(h2:v≠Ah)(h3:da i)(Ai:i'=(i+1)):aC Tp 0 aFc (gH l v i) .normal (gH l v i'):=by
 subst Ai;exact aC.fi (gZ cx) [bT,.x (aA Ah),bF] (gc h3 (gc (bL h2) (gc (atm aA h1) (gc (ixn aA h1) (g0 h0)))))
end
theorem aFg{l:List Int}(h0:(l.length:Int)≤(i:Int)):aC Tp 0 aFc (gH l v i) (.exit 0) (gH l v i):=aC.fi (gZ cx) [bF] (gc (bA h0) gn)
theorem aBp(l:List Int)(v:Int)(hl:l.length≤1000){base:Nat}:FV Tp 20 [.p (aG l),.p (aA v)] base (pI (bI (fun x=>decide (v=x)) l)) []:=by
 rcases aF.find (P:=Tp) (k:=0) (b:=aFc) (fun i=>gH l v i) (fun i _=>cC (gH l v i) [(4,.p (aA (i:Int)))]) (gH l v l.length) .ret (.exit 0) (by simp) (by simp) (fun x=>decide (v=x)) l
  (fun i x hx hp=>aFf (by have:=aX hx;omega) hx (by simpa using hp) (aM (by have:=aX hx;omega)) rfl)
  (fun i x hx hp=>aFe (by have:=aX hx;omega) hx (by simpa using hp))
  (aFg (l:=l) (i:=l.length) (by omega)) with ⟨i,x,h1,h2,h3,h4⟩ | ⟨h1,h2,h3⟩
 ·rw [eZ h2];exact bEt h4
 ·rw [fA h1];exact bEs h3
theorem bRb{l:List Int}(h0:l.length≤1000)(Ak:r0=(decide ((bI (fun x=>decide (v=x)) l) ≥ 0))):FV Tp 22 [(.p (aG l)),(pI v)] base (pB r0) []:=by
 subst Ak;have k1:=fk 0 (aBp l v h0) rfl;exact FV.fi func22 [k1.o] (gc k1 gn)
theorem vC(l:List Int)(v:Int):decide (bI (fun x=>decide (v=x)) l ≥ 0)=l.contains v:=by
 rw [iU]
 induction l with
 | nil=>rfl
 | cons a l ih=>rw [List.any_cons,ih,List.contains_cons];rfl
theorem lE(l:List Int)(v:Int)(hl:l.length≤1000){base:Nat}:FV Tp 22 [.p (aG l),.p (aA v)] base (pB (l.contains v)) []:=bRb hl (vC l v).symm
theorem bRc(h0:(decide (x1≤4))=true)(Ak:r0=(x5 == 0)):FV Tp 206 [(.p (.agg [(aA x0),(aA x1),(aA x2),(aA x3),(aA x4),(aA x5)]))] base (pB r0) []:=by
 subst Ak;have k1:=fk 1 (dQ x1) rfl;exact FV.fi func206 [k1.o,bT] (gc h0 (gc k1 gn))
theorem bRd(h0:(decide (x1≤4))=false)(h1:inR (x0-1))(Ak:r0=(within x5 1 (x0-1))):FV Tp 206 [(.p (.agg [(aA x0),(aA x1),(aA x2),(aA x3),(aA x4),(aA x5)]))] base (pB r0) []:=by
 subst Ak;have k1:=fk 1 (dQ x1) rfl;have k2:=fk 1 (bK x5 1 (x0-1)) rfl;exact FV.fi func206 [k1.o,bF,k2.o] (gc k2 (gc h1 (gc h0 (gc k1 gn))))
def orB(x:List Int):Bool:=if x.getD 1 0≤4 then x.getD 5 0 == 0 else within (x.getD 5 0) 1 (x.getD 0 0-1)
theorem bRe(a b c d e f:Int)(h:inR (a-1)){base:Nat}:FV Tp 206 [.p (dcE a b c d e f)] base (pB (orB [a,b,c,d,e,f])) []:=by
 by_cases hb:b≤4
 ·exact bRc (by simpa using hb) (show (if b≤4 then f == 0 else within f 1 (a-1))=_ by rw [if_pos hb])
 ·exact bRd (by simpa using hb) h (show (if b≤4 then f == 0 else within f 1 (a-1))=_ by rw [if_neg hb])
theorem bRf(h0:(decide (x1≤4))=true)(h1:uni 2 sk∧sk.length≤1000)(h2:(aL sk 0).length≤1000)(Ak:r0=((aL sk 0).contains x3)):FV Tp 205 [(.p (.agg [(aA x0),(aA x1),(aA x2),(aA x3),(aA x4),(aA x5)])),(.rp [(aA dl),(fS sk),(fS dc)] 0)] base (pB r0) []:=by
 subst Ak;have k1:=fk 1 (dQ x1) rfl;have k2:=fk 1 (mM dl sk dc h1) rfl;exact FV.fi func205 [k1.o,bT,.x (.agg [(aA dl),(fS sk),(fS dc)]),k2.o,.c (pB ((aL sk 0).contains x3)) []] (gt (FC Tp 22 [(.own 1),(pI x3)] [(1,(.row 3 ((aL sk 0).length) ((aL sk 0).map aA)))] 9 (pB ((aL sk 0).contains x3)) []) (fv (lE (aL sk 0) x3 h2)) (gc k2 (gr (.agg [(aA dl),(fS sk),(fS dc)]) (gt (0+3≤[(aA dl),(fS sk),(fS dc)].length) (by first | decide | simp) (gc h0 (gc k1 gn))))))
theorem bRg(h0:(decide (x1≤4))=false)(Ak:r0=(x3 == 0)):FV Tp 205 [(.p (.agg [(aA x0),(aA x1),(aA x2),(aA x3),(aA x4),(aA x5)])),(.rp [(aA dl),(fS sk),(fS dc)] 0)] base (pB r0) []:=by
 subst Ak;have k1:=fk 1 (dQ x1) rfl;exact FV.fi func205 [k1.o,bF] (gc h0 (gc k1 gn))
def inB(sk:Lqq)(x:List Int):Bool:=if x.getD 1 0≤4 then (aL sk 0).contains (x.getD 3 0) else x.getD 3 0 == 0
abbrev dX(dl:Int)(sk dc:Lqq):List PV:=[aA dl,.sl sk.length (sk.flatten.map aA),.sl dc.length (dc.flatten.map aA)]
theorem bRh(a b c d e f dl:Int)(sk dc:Lqq)(h:uni 2 sk∧sk.length≤1000){base:Nat}:FV Tp 205 [.p (dcE a b c d e f),.rp (dX dl sk dc) 0] base (pB (inB sk [a,b,c,d,e,f])) []:=by
 by_cases hb:b≤4
 ·exact bRf (by simpa using hb) h (by simpa [aL] using h.2) (show (if b≤4 then (aL sk 0).contains d else d == 0)=_ by rw [if_pos hb])
 ·exact bRg (by simpa using hb) (show (if b≤4 then (aL sk 0).contains d else d == 0)=_ by rw [if_neg hb])
theorem bKb(Ak:r0=(!(skB [x0,x1]))):FMM Tp 236 [(.p (.agg [(aA x0),(aA x1)])),(.ptr 0 0)] [some (.box 269 [(.fn 200 [] [])])] (pB r0) [some (.box 269 [(.fn 200 [] [])])]:=by
 subst Ak;have k1:=fk 2 (bRz x0 x1) rfl;exact FMM.fi 1 gE func236 [k1.o] (gc k1 gn)
theorem aTi(x0 x1:Int):FMM Tp 236 [(.p (.agg [(aA x0),(aA x1)])),.ptr 0 0] [some (.box 269 [(.fn 200 [] [])])] (pB (!(skB [x0,x1]))) [some (.box 269 [(.fn 200 [] [])])]:=bKb rfl
def fT(l:Lqq)(i:Nat):St:=⟨fr 19 [(0,(.p (fS l))),(1,(.fn 236 [] [(.ptr 0 0)])),(7,(pI (l.length:Int))),(8,(pI (i:Int)))],[some (.box 269 [(.fn 200 [] [])])]⟩
theorem bKc(hl0:aF Tp 1 aFd (fT l 0) (.exit 0) (fT l Aw)):FMM Tp 276 [(.p (fS l)),(.fn 236 [] [(.ptr 0 0)])] [some (.box 269 [(.fn 200 [] [])])] (pI (-1)) [some (.box 269 [(.fn 200 [] [])])]:=FMM.fi 1 gE func276 [hl0.k 6 (gZ cx)] (gc hl0.code gn)
theorem bKd(hl0:aF Tp 1 aFd (fT l 0) .ret (cC (fT l Aw) [(4,(pI (Aw:Int)))])):FMM Tp 276 [(.p (fS l)),(.fn 236 [] [(.ptr 0 0)])] [some (.box 269 [(.fn 200 [] [])])] (pI (Aw:Int)) [some (.box 269 [(.fn 200 [] [])])]:=FMM.fi 1 gE func276 [hl0.k 6 (gZ cx)] (gc hl0.code gn)
section
variable(h0:(i:Int)<(l.length:Int))(h1:l[i]? = some [Aa,Ab])(h2:uni 2 l)
include h0 h1 h2
theorem aPc(h3:(skB [Aa,Ab])=false):aC Tp 1 aFd (fT l i) .ret (cC (fT l i) [(4,(pI (i:Int)))]):=have k1:=mq [0] 1 (aTi Aa Ab);aC.fi (gZ cr) [bT,.x (.agg [(aA Aa),(aA Ab)]),k1.o,bT] (gc (bZ h3) (gc k1 (gfl h2 h1 (g0 h0))))
theorem aPd(h3:(skB [Aa,Ab])=true)(h4:da i)(Ai:i'=(i+1)):aC Tp 1 aFd (fT l i) .normal (fT l i'):=by
 subst Ai;have k1:=mq [0] 1 (aTi Aa Ab);exact aC.fi (gZ cx) [bT,.x (.agg [(aA Aa),(aA Ab)]),k1.o,bF] (gc h4 (gc (aV h3) (gc k1 (gfl h2 h1 (g0 h0)))))
end
theorem aPe(h0:(l.length:Int)≤(i:Int)):aC Tp 1 aFd (fT l i) (.exit 0) (fT l i):=aC.fi (gZ cx) [bF] (gc (bA h0) gn)
theorem bKe(l:Lqq)(hl:l.length≤1000)(hu:uni 2 l):FMM Tp 276 [.p (fS l),(.fn 236 [] [(.ptr 0 0)])] [some (.box 269 [(.fn 200 [] [])])] (pI (bI (fun x => !(skB x)) l)) [some (.box 269 [(.fn 200 [] [])])]:=by
 rcases aF.find (P:=Tp) (k:=1) (b:=aFd) (fun i=>fT l i) (fun i _=>cC (fT l i) [(4,.p (aA (i:Int)))]) (fT l l.length) .ret (.exit 0) (by simp) (by simp) (fun x => !(skB x)) l
  (fun i x hx hp=>by obtain ⟨a,b,rfl⟩:=len2 (hu _ (Bf hx));exact aPd (by have:=aX hx;omega) hx hu (by simpa using hp) (aM (by have:=aX hx;omega)) rfl)
  (fun i x hx hp=>by obtain ⟨a,b,rfl⟩:=len2 (hu _ (Bf hx));exact aPc (by have:=aX hx;omega) hx hu (by simpa using hp))
  (aPe (l:=l) (i:=l.length) (by omega)) with ⟨i,x,h1,h2,h3,h4⟩ | ⟨h1,h2,h3⟩
 ·rw [eZ h2];exact bKd h4
 ·rw [fA h1];exact bKc h3
theorem bKf(h0:l.length≤1000)(h1:uni 2 l)(Ak:r0=(decide ((bI (fun x => !(skB x)) l) ≥ 0))):FMM Tp 235 [(.p (fS l)),(.fn 236 [] [(.ptr 0 0)])] [some (.box 269 [(.fn 200 [] [])])] (pB r0) [some (.box 269 [(.fn 200 [] [])])]:=by
 subst Ak;have k1:=mq [0] 1 (bKe l h0 h1);exact FMM.fi 1 gE func235 [k1.o] (gc k1 gn)
theorem bKg(l:Lqq)(hl:l.length≤1000)(hu:uni 2 l):FMM Tp 235 [.p (fS l),(.fn 236 [] [(.ptr 0 0)])] [some (.box 269 [(.fn 200 [] [])])] (pB (l.any (fun x => !(skB x)))) [some (.box 269 [(.fn 200 [] [])])]:=bKf hl hu (iU _ _).symm
theorem bRi(h0:l.length≤1000)(h1:uni 2 l)(Ak:r0=(!(l.any (fun x => !(skB x))))):FV Tp 199 [(.p (fS l)),(.fn 200 [] [])] base (pB r0) []:=by
 subst Ak;have k1:=mq [0] 1 (bKg l h0 h1);exact FV.fi func199 [k1.o] (gc k1 gn)
theorem tR(l:Lqq)(hl:l.length≤1000)(hu:uni 2 l){base:Nat}:FV Tp 199 [.p (fS l),(.fn 200 [] [])] base (pB (l.all (skB))) []:=bRi hl hu (by rw [List.all_eq_not_any_not])
theorem bKh(Ak:r0=(!(dcB [x0,x1,x2,x3,x4,x5]))):FMM Tp 238 [(.p (.agg [(aA x0),(aA x1),(aA x2),(aA x3),(aA x4),(aA x5)])),(.ptr 0 0)] [some (.box 115 [(.fn 202 [] [])])] (pB r0) [some (.box 115 [(.fn 202 [] [])])]:=by
 subst Ak;have k1:=fk 2 (bSk x0 x1 x2 x3 x4 x5) rfl;exact FMM.fi 1 gE func238 [k1.o] (gc k1 gn)
theorem aTj(x0 x1 x2 x3 x4 x5:Int):FMM Tp 238 [(.p (.agg [(aA x0),(aA x1),(aA x2),(aA x3),(aA x4),(aA x5)])),.ptr 0 0] [some (.box 115 [(.fn 202 [] [])])] (pB (!(dcB [x0,x1,x2,x3,x4,x5]))) [some (.box 115 [(.fn 202 [] [])])]:=bKh rfl
def fU(l:Lqq)(i:Nat):St:=⟨fr 19 [(0,(.p (fS l))),(1,(.fn 238 [] [(.ptr 0 0)])),(7,(pI (l.length:Int))),(8,(pI (i:Int)))],[some (.box 115 [(.fn 202 [] [])])]⟩
theorem bKi(hl0:aF Tp 1 jC (fU l 0) (.exit 0) (fU l Aw)):FMM Tp 277 [(.p (fS l)),(.fn 238 [] [(.ptr 0 0)])] [some (.box 115 [(.fn 202 [] [])])] (pI (-1)) [some (.box 115 [(.fn 202 [] [])])]:=FMM.fi 1 gE func277 [hl0.k 6 (gZ cx)] (gc hl0.code gn)
theorem bKj(hl0:aF Tp 1 jC (fU l 0) .ret (cC (fU l Aw) [(4,(pI (Aw:Int)))])):FMM Tp 277 [(.p (fS l)),(.fn 238 [] [(.ptr 0 0)])] [some (.box 115 [(.fn 202 [] [])])] (pI (Aw:Int)) [some (.box 115 [(.fn 202 [] [])])]:=FMM.fi 1 gE func277 [hl0.k 6 (gZ cx)] (gc hl0.code gn)
section
variable(h0:(i:Int)<(l.length:Int))(h1:l[i]? = some [Aa,Ab,Ac,Ad,Ae,Af])(h2:uni 6 l)
include h0 h1 h2
theorem aPf(h3:(dcB [Aa,Ab,Ac,Ad,Ae,Af])=false):aC Tp 1 jC (fU l i) .ret (cC (fU l i) [(4,(pI (i:Int)))]):=have k1:=mq [0] 1 (aTj Aa Ab Ac Ad Ae Af);aC.fi (gZ cr) [bT,.x (.agg [(aA Aa),(aA Ab),(aA Ac),(aA Ad),(aA Ae),(aA Af)]),k1.o,bT] (gc (bZ h3) (gc k1 (gfl h2 h1 (g0 h0))))
theorem aPg(h3:(dcB [Aa,Ab,Ac,Ad,Ae,Af])=true)(h4:da i)(Ai:i'=(i+1)):aC Tp 1 jC (fU l i) .normal (fU l i'):=by
 subst Ai;have k1:=mq [0] 1 (aTj Aa Ab Ac Ad Ae Af);exact aC.fi (gZ cx) [bT,.x (.agg [(aA Aa),(aA Ab),(aA Ac),(aA Ad),(aA Ae),(aA Af)]),k1.o,bF] (gc h4 (gc (aV h3) (gc k1 (gfl h2 h1 (g0 h0)))))
end
theorem aPh(h0:(l.length:Int)≤(i:Int)):aC Tp 1 jC (fU l i) (.exit 0) (fU l i):=aC.fi (gZ cx) [bF] (gc (bA h0) gn)
theorem bKk(l:Lqq)(hl:l.length≤1000)(hu:uni 6 l):FMM Tp 277 [.p (fS l),(.fn 238 [] [(.ptr 0 0)])] [some (.box 115 [(.fn 202 [] [])])] (pI (bI (fun x => !(dcB x)) l)) [some (.box 115 [(.fn 202 [] [])])]:=by
 rcases aF.find (P:=Tp) (k:=1) (b:=jC) (fun i=>fU l i) (fun i _=>cC (fU l i) [(4,.p (aA (i:Int)))]) (fU l l.length) .ret (.exit 0) (by simp) (by simp) (fun x => !(dcB x)) l
  (fun i x hx hp=>by obtain ⟨a,b,c,d,e,f,rfl⟩:=Az (hu _ (Bf hx));exact aPg (by have:=aX hx;omega) hx hu (by simpa using hp) (aM (by have:=aX hx;omega)) rfl)
  (fun i x hx hp=>by obtain ⟨a,b,c,d,e,f,rfl⟩:=Az (hu _ (Bf hx));exact aPf (by have:=aX hx;omega) hx hu (by simpa using hp))
  (aPh (l:=l) (i:=l.length) (by omega)) with ⟨i,x,h1,h2,h3,h4⟩ | ⟨h1,h2,h3⟩
 ·rw [eZ h2];exact bKj h4
 ·rw [fA h1];exact bKi h3
theorem bKl(h0:l.length≤1000)(h1:uni 6 l)(Ak:r0=(decide ((bI (fun x => !(dcB x)) l) ≥ 0))):FMM Tp 237 [(.p (fS l)),(.fn 238 [] [(.ptr 0 0)])] [some (.box 115 [(.fn 202 [] [])])] (pB r0) [some (.box 115 [(.fn 202 [] [])])]:=by
 subst Ak;have k1:=mq [0] 1 (bKk l h0 h1);exact FMM.fi 1 gE func237 [k1.o] (gc k1 gn)
theorem bKm(l:Lqq)(hl:l.length≤1000)(hu:uni 6 l):FMM Tp 237 [.p (fS l),(.fn 238 [] [(.ptr 0 0)])] [some (.box 115 [(.fn 202 [] [])])] (pB (l.any (fun x => !(dcB x)))) [some (.box 115 [(.fn 202 [] [])])]:=bKl hl hu (iU _ _).symm
theorem bRj(h0:l.length≤1000)(h1:uni 6 l)(Ak:r0=(!(l.any (fun x => !(dcB x))))):FV Tp 201 [(.p (fS l)),(.fn 202 [] [])] base (pB r0) []:=by
 subst Ak;have k1:=mq [0] 1 (bKm l h0 h1);exact FV.fi func201 [k1.o] (gc k1 gn)
theorem wP(l:Lqq)(hl:l.length≤1000)(hu:uni 6 l){base:Nat}:FV Tp 201 [.p (fS l),(.fn 202 [] [])] base (pB (l.all (dcB))) []:=bRj hl hu (by rw [List.all_eq_not_any_not])
theorem bKn(h0:inR (x0-1))(Ak:r0=(!(orB [x0,x1,x2,x3,x4,x5]))):FMM Tp 238 [(.p (.agg [(aA x0),(aA x1),(aA x2),(aA x3),(aA x4),(aA x5)])),(.ptr 0 0)] [some (.box 115 [(.fn 206 [] [])])] (pB r0) [some (.box 115 [(.fn 206 [] [])])]:=by
 subst Ak;have k1:=fk 2 (bRe x0 x1 x2 x3 x4 x5 h0) rfl;exact FMM.fi 1 gE func238 [k1.o] (gc k1 gn)
theorem aTk(x0 x1 x2 x3 x4 x5:Int)(he:inR ([x0,x1,x2,x3,x4,x5].getD 0 0-1)):FMM Tp 238 [(.p (.agg [(aA x0),(aA x1),(aA x2),(aA x3),(aA x4),(aA x5)])),.ptr 0 0] [some (.box 115 [(.fn 206 [] [])])] (pB (!(orB [x0,x1,x2,x3,x4,x5]))) [some (.box 115 [(.fn 206 [] [])])]:=bKn he rfl
def fV(l:Lqq)(i:Nat):St:=⟨fr 19 [(0,(.p (fS l))),(1,(.fn 238 [] [(.ptr 0 0)])),(7,(pI (l.length:Int))),(8,(pI (i:Int)))],[some (.box 115 [(.fn 206 [] [])])]⟩
theorem bKo(hl0:aF Tp 1 jC (fV l 0) (.exit 0) (fV l Aw)):FMM Tp 277 [(.p (fS l)),(.fn 238 [] [(.ptr 0 0)])] [some (.box 115 [(.fn 206 [] [])])] (pI (-1)) [some (.box 115 [(.fn 206 [] [])])]:=FMM.fi 1 gE func277 [hl0.k 6 (gZ cx)] (gc hl0.code gn)
theorem bKp(hl0:aF Tp 1 jC (fV l 0) .ret (cC (fV l Aw) [(4,(pI (Aw:Int)))])):FMM Tp 277 [(.p (fS l)),(.fn 238 [] [(.ptr 0 0)])] [some (.box 115 [(.fn 206 [] [])])] (pI (Aw:Int)) [some (.box 115 [(.fn 206 [] [])])]:=FMM.fi 1 gE func277 [hl0.k 6 (gZ cx)] (gc hl0.code gn)
section
variable(h0:(i:Int)<(l.length:Int))(h1:l[i]? = some [Aa,Ab,Ac,Ad,Ae,Af])(h2:uni 6 l)(h3:inR ([Aa,Ab,Ac,Ad,Ae,Af].getD 0 0-1))
include h0 h1 h2 h3
theorem aPi(h4:(orB [Aa,Ab,Ac,Ad,Ae,Af])=false):aC Tp 1 jC (fV l i) .ret (cC (fV l i) [(4,(pI (i:Int)))]):=have k1:=mq [0] 1 (aTk Aa Ab Ac Ad Ae Af h3);aC.fi (gZ cr) [bT,.x (.agg [(aA Aa),(aA Ab),(aA Ac),(aA Ad),(aA Ae),(aA Af)]),k1.o,bT] (gc (bZ h4) (gc k1 (gfl h2 h1 (g0 h0))))
theorem aPj(h4:(orB [Aa,Ab,Ac,Ad,Ae,Af])=true)(h5:da i)(Ai:i'=(i+1)):aC Tp 1 jC (fV l i) .normal (fV l i'):=by
 subst Ai;have k1:=mq [0] 1 (aTk Aa Ab Ac Ad Ae Af h3);exact aC.fi (gZ cx) [bT,.x (.agg [(aA Aa),(aA Ab),(aA Ac),(aA Ad),(aA Ae),(aA Af)]),k1.o,bF] (gc h5 (gc (aV h4) (gc k1 (gfl h2 h1 (g0 h0)))))
end
theorem aPk(h0:(l.length:Int)≤(i:Int)):aC Tp 1 jC (fV l i) (.exit 0) (fV l i):=aC.fi (gZ cx) [bF] (gc (bA h0) gn)
theorem bKq(l:Lqq)(hl:l.length≤1000)(hu:uni 6 l)(he:∀ x∈l,inR (x.getD 0 0-1)):FMM Tp 277 [.p (fS l),(.fn 238 [] [(.ptr 0 0)])] [some (.box 115 [(.fn 206 [] [])])] (pI (bI (fun x => !(orB x)) l)) [some (.box 115 [(.fn 206 [] [])])]:=by
 rcases aF.find (P:=Tp) (k:=1) (b:=jC) (fun i=>fV l i) (fun i _=>cC (fV l i) [(4,.p (aA (i:Int)))]) (fV l l.length) .ret (.exit 0) (by simp) (by simp) (fun x => !(orB x)) l
  (fun i x hx hp=>by obtain ⟨a,b,c,d,e,f,rfl⟩:=Az (hu _ (Bf hx));exact aPj (by have:=aX hx;omega) hx hu (he _ (Bf hx)) (by simpa using hp) (aM (by have:=aX hx;omega)) rfl)
  (fun i x hx hp=>by obtain ⟨a,b,c,d,e,f,rfl⟩:=Az (hu _ (Bf hx));exact aPi (by have:=aX hx;omega) hx hu (he _ (Bf hx)) (by simpa using hp))
  (aPk (l:=l) (i:=l.length) (by omega)) with ⟨i,x,h1,h2,h3,h4⟩ | ⟨h1,h2,h3⟩
 ·rw [eZ h2];exact bKp h4
 ·rw [fA h1];exact bKo h3
theorem bKr(h0:l.length≤1000)(h1:uni 6 l)(h2:∀ x∈l,inR (x.getD 0 0-1))(Ak:r0=(decide ((bI (fun x => !(orB x)) l) ≥ 0))):FMM Tp 237 [(.p (fS l)),(.fn 238 [] [(.ptr 0 0)])] [some (.box 115 [(.fn 206 [] [])])] (pB r0) [some (.box 115 [(.fn 206 [] [])])]:=by
 subst Ak;have k1:=mq [0] 1 (bKq l h0 h1 h2);exact FMM.fi 1 gE func237 [k1.o] (gc k1 gn)
theorem bKs(l:Lqq)(hl:l.length≤1000)(hu:uni 6 l)(he:∀ x∈l,inR (x.getD 0 0-1)):FMM Tp 237 [.p (fS l),(.fn 238 [] [(.ptr 0 0)])] [some (.box 115 [(.fn 206 [] [])])] (pB (l.any (fun x => !(orB x)))) [some (.box 115 [(.fn 206 [] [])])]:=bKr hl hu he (iU _ _).symm
theorem bRk(h0:l.length≤1000)(h1:uni 6 l)(h2:∀ x∈l,inR (x.getD 0 0-1))(Ak:r0=(!(l.any (fun x => !(orB x))))):FV Tp 201 [(.p (fS l)),(.fn 206 [] [])] base (pB r0) []:=by
 subst Ak;have k1:=mq [0] 1 (bKs l h0 h1 h2);exact FV.fi func201 [k1.o] (gc k1 gn)
theorem bEu(l:Lqq)(hl:l.length≤1000)(hu:uni 6 l)(he:∀ x∈l,inR (x.getD 0 0-1)){base:Nat}:FV Tp 201 [.p (fS l),(.fn 206 [] [])] base (pB (l.all (orB))) []:=bRk hl hu he (by rw [List.all_eq_not_any_not])
theorem bKt(h0:uni 2 sk∧sk.length≤1000)(Ak:r0=(!(inB sk [x0,x1,x2,x3,x4,x5]))):FMM Tp 238 [(.p (.agg [(aA x0),(aA x1),(aA x2),(aA x3),(aA x4),(aA x5)])),(.ptr 0 0)] [some (.box 115 [(.fn 205 [] [(.rp [(aA dl),(fS sk),(fS dc)] 0)])])] (pB r0) [some (.box 115 [(.fn 205 [] [(.rp [(aA dl),(fS sk),(fS dc)] 0)])])]:=by
 subst Ak;have k1:=fk 2 (bRh x0 x1 x2 x3 x4 x5 dl sk dc h0) rfl;exact FMM.fi 1 gE func238 [k1.o] (gc k1 gn)
theorem aTl(x0 x1 x2 x3 x4 x5 dl:Int)(sk dc:Lqq)(he:uni 2 sk∧sk.length≤1000):FMM Tp 238 [(.p (.agg [(aA x0),(aA x1),(aA x2),(aA x3),(aA x4),(aA x5)])),.ptr 0 0] [some (.box 115 [(.fn 205 [] [(.rp [(aA dl),(fS sk),(fS dc)] 0)])])] (pB (!(inB sk [x0,x1,x2,x3,x4,x5]))) [some (.box 115 [(.fn 205 [] [(.rp [(aA dl),(fS sk),(fS dc)] 0)])])]:=bKt he rfl
def fW(l:Lqq)(dl:Int)(sk dc:Lqq)(i:Nat):St:=⟨fr 19 [(0,(.p (fS l))),(1,(.fn 238 [] [(.ptr 0 0)])),(7,(pI (l.length:Int))),(8,(pI (i:Int)))],[some (.box 115 [(.fn 205 [] [(.rp [(aA dl),(fS sk),(fS dc)] 0)])])]⟩
theorem bKu(hl0:aF Tp 1 jC (fW l dl sk dc 0) (.exit 0) (fW l dl sk dc Aw)):FMM Tp 277 [(.p (fS l)),(.fn 238 [] [(.ptr 0 0)])] [some (.box 115 [(.fn 205 [] [(.rp [(aA dl),(fS sk),(fS dc)] 0)])])] (pI (-1)) [some (.box 115 [(.fn 205 [] [(.rp [(aA dl),(fS sk),(fS dc)] 0)])])]:=FMM.fi 1 gE func277 [hl0.k 6 (gZ cx)] (gc hl0.code gn)
theorem bKv(hl0:aF Tp 1 jC (fW l dl sk dc 0) .ret (cC (fW l dl sk dc Aw) [(4,(pI (Aw:Int)))])):FMM Tp 277 [(.p (fS l)),(.fn 238 [] [(.ptr 0 0)])] [some (.box 115 [(.fn 205 [] [(.rp [(aA dl),(fS sk),(fS dc)] 0)])])] (pI (Aw:Int)) [some (.box 115 [(.fn 205 [] [(.rp [(aA dl),(fS sk),(fS dc)] 0)])])]:=FMM.fi 1 gE func277 [hl0.k 6 (gZ cx)] (gc hl0.code gn)
section
variable(h0:(i:Int)<(l.length:Int))(h1:l[i]? = some [Aa,Ab,Ac,Ad,Ae,Af])(h2:uni 6 l)(h3:uni 2 sk∧sk.length≤1000)
include h0 h1 h2 h3
theorem aPl(h4:(inB sk [Aa,Ab,Ac,Ad,Ae,Af])=false):aC Tp 1 jC (fW l dl sk dc i) .ret (cC (fW l dl sk dc i) [(4,(pI (i:Int)))]):=have k1:=mq [0] 1 (aTl Aa Ab Ac Ad Ae Af dl sk dc h3);aC.fi (gZ cr) [bT,.x (.agg [(aA Aa),(aA Ab),(aA Ac),(aA Ad),(aA Ae),(aA Af)]),k1.o,bT] (gc (bZ h4) (gc k1 (gfl h2 h1 (g0 h0))))
theorem aPm(h4:(inB sk [Aa,Ab,Ac,Ad,Ae,Af])=true)(h5:da i)(Ai:i'=(i+1)):aC Tp 1 jC (fW l dl sk dc i) .normal (fW l dl sk dc i'):=by
 subst Ai;have k1:=mq [0] 1 (aTl Aa Ab Ac Ad Ae Af dl sk dc h3);exact aC.fi (gZ cx) [bT,.x (.agg [(aA Aa),(aA Ab),(aA Ac),(aA Ad),(aA Ae),(aA Af)]),k1.o,bF] (gc h5 (gc (aV h4) (gc k1 (gfl h2 h1 (g0 h0)))))
end
theorem aPn(h0:(l.length:Int)≤(i:Int)):aC Tp 1 jC (fW l dl sk dc i) (.exit 0) (fW l dl sk dc i):=aC.fi (gZ cx) [bF] (gc (bA h0) gn)
theorem bKw(l:Lqq)(dl:Int)(sk dc:Lqq)(hl:l.length≤1000)(hu:uni 6 l)(he:∀ x∈l,uni 2 sk∧sk.length≤1000):FMM Tp 277 [.p (fS l),(.fn 238 [] [(.ptr 0 0)])] [some (.box 115 [(.fn 205 [] [(.rp [(aA dl),(fS sk),(fS dc)] 0)])])] (pI (bI (fun x => !(inB sk x)) l)) [some (.box 115 [(.fn 205 [] [(.rp [(aA dl),(fS sk),(fS dc)] 0)])])]:=by
 rcases aF.find (P:=Tp) (k:=1) (b:=jC) (fun i=>fW l dl sk dc i) (fun i _=>cC (fW l dl sk dc i) [(4,.p (aA (i:Int)))]) (fW l dl sk dc l.length) .ret (.exit 0) (by simp) (by simp) (fun x => !(inB sk x)) l
  (fun i x hx hp=>by obtain ⟨a,b,c,d,e,f,rfl⟩:=Az (hu _ (Bf hx));exact aPm (by have:=aX hx;omega) hx hu (he _ (Bf hx)) (by simpa using hp) (aM (by have:=aX hx;omega)) rfl)
  (fun i x hx hp=>by obtain ⟨a,b,c,d,e,f,rfl⟩:=Az (hu _ (Bf hx));exact aPl (by have:=aX hx;omega) hx hu (he _ (Bf hx)) (by simpa using hp))
  (aPn (l:=l) (i:=l.length) (by omega)) with ⟨i,x,h1,h2,h3,h4⟩ | ⟨h1,h2,h3⟩
 ·rw [eZ h2];exact bKv h4
 ·rw [fA h1];exact bKu h3
theorem bKx(h0:l.length≤1000)(h1:uni 6 l)(h2:∀ x∈l,uni 2 sk∧sk.length≤1000)(Ak:r0=(decide ((bI (fun x => !(inB sk x)) l) ≥ 0))):FMM Tp 237 [(.p (fS l)),(.fn 238 [] [(.ptr 0 0)])] [some (.box 115 [(.fn 205 [] [(.rp [(aA dl),(fS sk),(fS dc)] 0)])])] (pB r0) [some (.box 115 [(.fn 205 [] [(.rp [(aA dl),(fS sk),(fS dc)] 0)])])]:=by
 subst Ak;have k1:=mq [0] 1 (bKw l dl sk dc h0 h1 h2);exact FMM.fi 1 gE func237 [k1.o] (gc k1 gn)
theorem bKy(l:Lqq)(dl:Int)(sk dc:Lqq)(hl:l.length≤1000)(hu:uni 6 l)(he:∀ x∈l,uni 2 sk∧sk.length≤1000):FMM Tp 237 [.p (fS l),(.fn 238 [] [(.ptr 0 0)])] [some (.box 115 [(.fn 205 [] [(.rp [(aA dl),(fS sk),(fS dc)] 0)])])] (pB (l.any (fun x => !(inB sk x)))) [some (.box 115 [(.fn 205 [] [(.rp [(aA dl),(fS sk),(fS dc)] 0)])])]:=bKx hl hu he (iU _ _).symm
theorem bRl(h0:l.length≤1000)(h1:uni 6 l)(h2:∀ x∈l,uni 2 sk∧sk.length≤1000)(Ak:r0=(!(l.any (fun x => !(inB sk x))))):FV Tp 201 [(.p (fS l)),(.fn 205 [] [(.rp [(aA dl),(fS sk),(fS dc)] 0)])] base (pB r0) []:=by
 subst Ak;have k1:=mq [0] 1 (bKy l dl sk dc h0 h1 h2);exact FV.fi func201 [k1.o] (gc k1 gn)
theorem aPo(l:Lqq)(dl:Int)(sk dc:Lqq)(hl:l.length≤1000)(hu:uni 6 l)(he:∀ x∈l,uni 2 sk∧sk.length≤1000){base:Nat}:FV Tp 201 [.p (fS l),(.fn 205 [] [(.rp [(aA dl),(fS sk),(fS dc)] 0)])] base (pB (l.all (inB sk))) []:=bRl hl hu he (by rw [List.all_eq_not_any_not])
theorem bRm(h0:(within (sk.length:Int) 1 30)=false):FV Tp 152 [(.p (.agg [(aA dl),(fS sk),(fS dc)]))] base (pI 2) []:=have k1:=fk 1 (bK (sk.length:Int) 1 30) rfl;FV.fi func152 ([k1.o]++rT 5) (Cn (bZ h0) (gc k1 gn))
section
variable(h0:(within (sk.length:Int) 1 30)=true)
include h0
theorem bRn(h1:(40:Int)<(dc.length:Int)):FV Tp 152 [(.p (.agg [(aA dl),(fS sk),(fS dc)]))] base (pI 2) []:=have k1:=fk 1 (bK (sk.length:Int) 1 30) rfl;FV.fi func152 ([k1.o]++rF 5++[bT]) (gc (eV h1) (Cn (aV h0) (gc k1 gn)))
theorem bRo(h1:(dc.length:Int)≤40)(h2:(within dl 0 10000)=false):FV Tp 152 [(.p (.agg [(aA dl),(fS sk),(fS dc)]))] base (pI 3) []:=have k1:=fk 1 (bK (sk.length:Int) 1 30) rfl;have k2:=fk 1 (bK dl 0 10000) rfl;FV.fi func152 ([k1.o]++rF 6++[k2.o]++rT 5) (Cn (bZ h2) (gc k2 (gc (bA h1) (Cn (aV h0) (gc k1 gn)))))
end
section
variable(h0:(within (sk.length:Int) 1 30)=true)(h1:(dc.length:Int)≤40)(h2:(within dl 0 10000)=true)(h3:sk.length≤1000)(h4:uni 2 sk)
include h0 h1 h2 h3 h4
theorem bRp(h5:(sk.all (skB))=false):FV Tp 152 [(.p (.agg [(aA dl),(fS sk),(fS dc)]))] base (pI 3) []:=have k1:=fk 1 (bK (sk.length:Int) 1 30) rfl;have k2:=fk 1 (bK dl 0 10000) rfl;have k3:=fk 1 (tR sk h3 h4) rfl;FV.fi func152 ([k1.o]++rF 6++[k2.o,bF,bF,bF,k3.o,bF,bF]++rT 5) (Cn (bZ h5) (Bc (aV h2) (gc k3 (Ar (aV h2) (gc k2 (gc (bA h1) (Cn (aV h0) (gc k1 gn))))))))
theorem bRq(h5:(sk.all (skB))=true)(h6:dc.length≤1000)(h7:uni 6 dc)(h8:(dc.all (dcB))=false):FV Tp 152 [(.p (.agg [(aA dl),(fS sk),(fS dc)]))] base (pI 3) []:=have k1:=fk 1 (bK (sk.length:Int) 1 30) rfl;have k2:=fk 1 (bK dl 0 10000) rfl;have k3:=fk 1 (tR sk h3 h4) rfl;have k4:=fk 1 (wP dc h6 h7) rfl;FV.fi func152 ([k1.o]++rF 6++[k2.o,bF,bF,bF,k3.o]++rF 5++[k4.o,bF,bF,bT]) (gc (bZ h8) (Bc (aV h5) (gc k4 (Ar (aV h5) (Bc (aV h2) (gc k3 (Ar (aV h2) (gc k2 (gc (bA h1) (Cn (aV h0) (gc k1 gn)))))))))))
theorem bRr(h5:(sk.all (skB))=true)(h6:dc.length≤1000)(h7:uni 6 dc)(h8:(dc.all (dcB))=true)(h9:uni 2 sk∧sk.length≤1000)(B0:(aL sk 0).length≤1000)(Cg:∀ x∈(aL sk 0),-1000000≤x∧x≤1000000)(Cc:(!decide (aL sk 0).Nodup)=true):FV Tp 152 [(.p (.agg [(aA dl),(fS sk),(fS dc)]))] base (pI 5) []:=have k1:=fk 1 (bK (sk.length:Int) 1 30) rfl;have k2:=fk 1 (bK dl 0 10000) rfl;have k3:=fk 1 (tR sk h3 h4) rfl;have k4:=fk 1 (wP dc h6 h7) rfl;have k5:=fk 1 (mM dl sk dc h9) rfl;FV.fi func152 ([k1.o]++rF 6++[k2.o,bF,bF,bF,k3.o]++rF 5++[k4.o,bF,bF,bF,k5.o,.c (pB (!decide (aL sk 0).Nodup)) [],bT,bT,bT,bT]) (A3 Cc (gt (FC Tp 203 [(.own 1)] [(1,(.row 3 ((aL sk 0).length) ((aL sk 0).map aA)))] 2 (pB (!decide (aL sk 0).Nodup)) []) (fv (vD (aL sk 0) B0 Cg)) (gc k5 (gc (aV h8) (Bc (aV h5) (gc k4 (Ar (aV h5) (Bc (aV h2) (gc k3 (Ar (aV h2) (gc k2 (gc (bA h1) (Cn (aV h0) (gc k1 gn))))))))))))))
end
section
variable(h0:(within (sk.length:Int) 1 30)=true)(h1:(dc.length:Int)≤40)(h2:(within dl 0 10000)=true)(h3:sk.length≤1000)(h4:uni 2 sk)(h5:(sk.all (skB))=true)(h6:dc.length≤1000)(h7:uni 6 dc)(h8:(dc.all (dcB))=true)(h9:uni 2 sk∧sk.length≤1000)(B0:(aL sk 0).length≤1000)(Cg:∀ x∈(aL sk 0),-1000000≤x∧x≤1000000)(Cc:(!decide (aL sk 0).Nodup)=false)(Dp:uni 6 dc∧dc.length≤1000)(D6:(aL dc 0).length≤1000)(F6:∀ x∈(aL dc 0),-1000000≤x∧x≤1000000)
include h0 h1 h2 h3 h4 h5 h6 h7 h8 h9 B0 Cg Cc Dp D6 F6
theorem bRs(G0:(!decide (aL dc 0).Nodup)=true):FV Tp 152 [(.p (.agg [(aA dl),(fS sk),(fS dc)]))] base (pI 5) []:=have k1:=fk 1 (bK (sk.length:Int) 1 30) rfl;have k2:=fk 1 (bK dl 0 10000) rfl;have k3:=fk 1 (tR sk h3 h4) rfl;have k4:=fk 1 (wP dc h6 h7) rfl;have k5:=fk 1 (mM dl sk dc h9) rfl;have k6:=fk 2 (aHn dl sk dc Dp) rfl;FV.fi func152 ([k1.o]++rF 6++[k2.o,bF,bF,bF,k3.o]++rF 5++[k4.o,bF,bF,bF,k5.o,.c (pB (!decide (aL sk 0).Nodup)) [],bF,bF,k6.o,bF,.c (pB (!decide (aL dc 0).Nodup)) [],bF,bT]) (gc G0 (gc Cc (gt (FC Tp 203 [(.own 2)] [(2,(.row 3 ((aL dc 0).length) ((aL dc 0).map aA)))] 3 (pB (!decide (aL dc 0).Nodup)) []) (fv (vD (aL dc 0) D6 F6)) (gc Cc (gc k6 (Bc Cc (gt (FC Tp 203 [(.own 1)] [(1,(.row 3 ((aL sk 0).length) ((aL sk 0).map aA)))] 2 (pB (!decide (aL sk 0).Nodup)) []) (fv (vD (aL sk 0) B0 Cg)) (gc k5 (gc (aV h8) (Bc (aV h5) (gc k4 (Ar (aV h5) (Bc (aV h2) (gc k3 (Ar (aV h2) (gc k2 (gc (bA h1) (Cn (aV h0) (gc k1 gn)))))))))))))))))))
theorem bRt(G0:(!decide (aL dc 0).Nodup)=false)(Jz:∀ x∈dc,uni 2 sk∧sk.length≤1000)(J0:(dc.all (inB sk))=false):FV Tp 152 [(.p (.agg [(aA dl),(fS sk),(fS dc)]))] base (pI 1) []:=have k1:=fk 1 (bK (sk.length:Int) 1 30) rfl;have k2:=fk 1 (bK dl 0 10000) rfl;have k3:=fk 1 (tR sk h3 h4) rfl;have k4:=fk 1 (wP dc h6 h7) rfl;have k5:=fk 1 (mM dl sk dc h9) rfl;have k6:=fk 2 (aHn dl sk dc Dp) rfl;have k7:=fk 2 (aPo dc dl sk dc h6 h7 Jz) rfl;FV.fi func152 ([k1.o]++rF 6++[k2.o,bF,bF,bF,k3.o]++rF 5++[k4.o,bF,bF,bF,k5.o,.c (pB (!decide (aL sk 0).Nodup)) [],bF,bF,k6.o,bF,.c (pB (!decide (aL dc 0).Nodup)) [],bF,bF,.g 1 ⟨[],[1,2],[0],[]⟩,.x (fS dc),k7.o,bT]) (gc (bZ J0) (gc k7 (gr (fS dc) (gc G0 (gc Cc (gt (FC Tp 203 [(.own 2)] [(2,(.row 3 ((aL dc 0).length) ((aL dc 0).map aA)))] 3 (pB (!decide (aL dc 0).Nodup)) []) (fv (vD (aL dc 0) D6 F6)) (gc Cc (gc k6 (Bc Cc (gt (FC Tp 203 [(.own 1)] [(1,(.row 3 ((aL sk 0).length) ((aL sk 0).map aA)))] 2 (pB (!decide (aL sk 0).Nodup)) []) (fv (vD (aL sk 0) B0 Cg)) (gc k5 (gc (aV h8) (Bc (aV h5) (gc k4 (Ar (aV h5) (Bc (aV h2) (gc k3 (Ar (aV h2) (gc k2 (gc (bA h1) (Cn (aV h0) (gc k1 gn))))))))))))))))))))))
theorem bRu(G0:(!decide (aL dc 0).Nodup)=false)(Jz:∀ x∈dc,uni 2 sk∧sk.length≤1000)(J0:(dc.all (inB sk))=true)(Pu:∀ x∈dc,inR (x.getD 0 0-1))(Pv:(dc.all (orB))=false):FV Tp 152 [(.p (.agg [(aA dl),(fS sk),(fS dc)]))] base (pI 4) []:=have k1:=fk 1 (bK (sk.length:Int) 1 30) rfl;have k2:=fk 1 (bK dl 0 10000) rfl;have k3:=fk 1 (tR sk h3 h4) rfl;have k4:=fk 1 (wP dc h6 h7) rfl;have k5:=fk 1 (mM dl sk dc h9) rfl;have k6:=fk 2 (aHn dl sk dc Dp) rfl;have k7:=fk 2 (aPo dc dl sk dc h6 h7 Jz) rfl;have k8:=fk 2 (bEu dc h6 h7 Pu) rfl;FV.fi func152 ([k1.o]++rF 6++[k2.o,bF,bF,bF,k3.o]++rF 5++[k4.o,bF,bF,bF,k5.o,.c (pB (!decide (aL sk 0).Nodup)) [],bF,bF,k6.o,bF,.c (pB (!decide (aL dc 0).Nodup)) [],bF,bF,.g 1 ⟨[],[1,2],[0],[]⟩,.x (fS dc),k7.o,bF,.x (fS dc),k8.o,bT]) (gc (bZ Pv) (gc k8 (gr (fS dc) (gc (aV J0) (gc k7 (gr (fS dc) (gc G0 (gc Cc (gt (FC Tp 203 [(.own 2)] [(2,(.row 3 ((aL dc 0).length) ((aL dc 0).map aA)))] 3 (pB (!decide (aL dc 0).Nodup)) []) (fv (vD (aL dc 0) D6 F6)) (gc Cc (gc k6 (Bc Cc (gt (FC Tp 203 [(.own 1)] [(1,(.row 3 ((aL sk 0).length) ((aL sk 0).map aA)))] 2 (pB (!decide (aL sk 0).Nodup)) []) (fv (vD (aL sk 0) B0 Cg)) (gc k5 (gc (aV h8) (Bc (aV h5) (gc k4 (Ar (aV h5) (Bc (aV h2) (gc k3 (Ar (aV h2) (gc k2 (gc (bA h1) (Cn (aV h0) (gc k1 gn)))))))))))))))))))))))))
theorem bRv(G0:(!decide (aL dc 0).Nodup)=false)(Jz:∀ x∈dc,uni 2 sk∧sk.length≤1000)(J0:(dc.all (inB sk))=true)(Pu:∀ x∈dc,inR (x.getD 0 0-1))(Pv:(dc.all (orB))=true):FV Tp 152 [(.p (.agg [(aA dl),(fS sk),(fS dc)]))] base (pI 0) []:=have k1:=fk 1 (bK (sk.length:Int) 1 30) rfl;have k2:=fk 1 (bK dl 0 10000) rfl;have k3:=fk 1 (tR sk h3 h4) rfl;have k4:=fk 1 (wP dc h6 h7) rfl;have k5:=fk 1 (mM dl sk dc h9) rfl;have k6:=fk 2 (aHn dl sk dc Dp) rfl;have k7:=fk 2 (aPo dc dl sk dc h6 h7 Jz) rfl;have k8:=fk 2 (bEu dc h6 h7 Pu) rfl;FV.fi func152 ([k1.o]++rF 6++[k2.o,bF,bF,bF,k3.o]++rF 5++[k4.o,bF,bF,bF,k5.o,.c (pB (!decide (aL sk 0).Nodup)) [],bF,bF,k6.o,bF,.c (pB (!decide (aL dc 0).Nodup)) [],bF,bF,.g 1 ⟨[],[1,2],[0],[]⟩,.x (fS dc),k7.o,bF,.x (fS dc),k8.o,bF]) (gc (aV Pv) (gc k8 (gr (fS dc) (gc (aV J0) (gc k7 (gr (fS dc) (gc G0 (gc Cc (gt (FC Tp 203 [(.own 2)] [(2,(.row 3 ((aL dc 0).length) ((aL dc 0).map aA)))] 3 (pB (!decide (aL dc 0).Nodup)) []) (fv (vD (aL dc 0) D6 F6)) (gc Cc (gc k6 (Bc Cc (gt (FC Tp 203 [(.own 1)] [(1,(.row 3 ((aL sk 0).length) ((aL sk 0).map aA)))] 2 (pB (!decide (aL sk 0).Nodup)) []) (fv (vD (aL sk 0) B0 Cg)) (gc k5 (gc (aV h8) (Bc (aV h5) (gc k4 (Ar (aV h5) (Bc (aV h2) (gc k3 (Ar (aV h2) (gc k2 (gc (bA h1) (Cn (aV h0) (gc k1 gn)))))))))))))))))))))))))
end
end
section

def bEr(dl:Int)(sk dc:Lqq):Int :=
 if within (sk.length:Int) 1 30=false∨(40:Int)<(dc.length:Int) then 2
 else if within dl 0 10000=false∨sk.all skB=false∨dc.all dcB=false then 3
 else if ¬ (aL sk 0).Nodup∨¬ (aL dc 0).Nodup then 5
 else if dc.all (inB sk)=false then 1
 else if dc.all orB=false then 4 else 0

structure cF (dl:Int) (sk dc:Lqq):Prop where
 us:uni 2 sk
 ud:uni 6 dc
 len:1≤sk.length∧sk.length≤30
 len2:dc.length≤40
 hdl:0≤dl∧dl≤10000
 hsk:∀ x∈sk,skB x=true
 hdc:∀ x∈dc,dcB x=true
 ns:(aL sk 0).Nodup
 nd:(aL dc 0).Nodup
 inb:∀ x∈dc,inB sk x=true
 ord:∀ x∈dc,orB x=true

theorem bO{n lo hi:Int}:within n lo hi=true↔lo≤n∧n≤hi:=by simp [within]
theorem lW(f:Lqq)(j:Nat):(aL f j).length=f.length:=by simp [aL]
theorem aTh{f:Lqq}{j:Nat}{n:Int}(h:n∈aL f j):∃ x∈f,x.getD j 0=n:=by simpa [aL] using h
theorem aHm{x:List Int}:skB x=true↔(1≤x.getD 0 0∧x.getD 0 0≤999) ∧ -1≤x.getD 1 0∧x.getD 1 0≤360000:=by
 unfold skB;rw [Bg,bO,bO]
theorem gY{x:List Int}:dcB x=true↔(1≤x.getD 0 0∧x.getD 0 0≤9999)∧(0≤x.getD 1 0∧x.getD 1 0≤9)∧(0≤x.getD 2 0∧x.getD 2 0≤10000)∧0≤x.getD 4 0∧x.getD 4 0≤jX (x.getD 1 0):=by
 unfold dcB;rw [Bg,Bg,Bg,bO,bO,bO,bO]

theorem bRa(dl:Int)(sk dc:Lqq)(us:uni 2 sk)(ud:uni 6 dc){base:Nat}:FV Tp 152 [.p (.agg (dX dl sk dc))] base (.p (aA (bEr dl sk dc))) []:=by
 unfold bEr;cases h1:within (sk.length:Int) 1 30 with
 | false=>rw [if_pos (.inl rfl)];exact bRm h1
 | true =>
 have l1:=(bO.1 h1)
 by_cases h2:(40:Int)<(dc.length:Int)
 ·rw [if_pos (.inr h2)];exact bRn h1 h2
 rw [if_neg (by simp [h2])]
 have Eo:(dc.length:Int)≤40:=by omega
 cases h3:within dl 0 10000 with
 | false=>rw [if_pos (.inl rfl)];exact bRo h1 Eo h3
 | true =>
 have hs:sk.length≤1000:=by omega
 have hd:dc.length≤1000:=by omega
 cases h4:sk.all skB with
 | false=>rw [if_pos (.inr (.inl rfl))];exact bRp h1 Eo h3 hs us h4
 | true =>
 cases h5:dc.all dcB with
 | false=>rw [if_pos (.inr (.inr rfl))];exact bRq h1 Eo h3 hs us h4 hd ud h5
 | true =>
 rw [if_neg (by simp)]
 have b1:∀ x∈aL sk 0,-1000000≤x∧x≤1000000:=fun n hn=>by
  obtain ⟨x,hx,rfl⟩:=aTh hn;have:=aHm.1 (fD.1 h4 x hx);omega
 have b2:∀ x∈aL dc 0,-1000000≤x∧x≤1000000:=fun n hn=>by
  obtain ⟨x,hx,rfl⟩:=aTh hn;have:=gY.1 (fD.1 h5 x hx);omega
 have b3:∀ x∈dc,inR (x.getD 0 0-1):=fun x hx=>by
  have:=gY.1 (fD.1 h5 x hx);unfold inR;omega
 have c1:(aL sk 0).length≤1000:=by rw [lW];exact hs
 have c2:(aL dc 0).length≤1000:=by rw [lW];exact hd
 by_cases h6:(aL sk 0).Nodup
 ·by_cases h7:(aL dc 0).Nodup
  ·rw [if_neg (by simp [h6,h7])]
   cases h8:dc.all (inB sk) with
   | false=>rw [if_pos rfl];exact bRt h1 Eo h3 hs us h4 hd ud h5 ⟨us,hs⟩ c1 b1 (by simp [h6]) ⟨ud,hd⟩ c2 b2 (by simp [h7]) (fun _ _=>⟨us,hs⟩) h8
   | true =>
    rw [if_neg (by simp)]
    cases h9:dc.all orB with
    | false=>rw [if_pos rfl];exact bRu h1 Eo h3 hs us h4 hd ud h5 ⟨us,hs⟩ c1 b1 (by simp [h6]) ⟨ud,hd⟩ c2 b2 (by simp [h7]) (fun _ _=>⟨us,hs⟩) h8 b3 h9
    | true=>rw [if_neg (by simp)];exact bRv h1 Eo h3 hs us h4 hd ud h5 ⟨us,hs⟩ c1 b1 (by simp [h6]) ⟨ud,hd⟩ c2 b2 (by simp [h7]) (fun _ _=>⟨us,hs⟩) h8 b3 h9
  ·rw [if_pos (.inr h7)];exact bRs h1 Eo h3 hs us h4 hd ud h5 ⟨us,hs⟩ c1 b1 (by simp [h6]) ⟨ud,hd⟩ c2 b2 (by simp [h7])
 ·rw [if_pos (.inl h6)];exact bRr h1 Eo h3 hs us h4 hd ud h5 ⟨us,hs⟩ c1 b1 (by simp [h6])

theorem bKa{dl:Int}{sk dc:Lqq}(us:uni 2 sk)(ud:uni 6 dc):bEr dl sk dc=0↔cF dl sk dc:=by
 unfold bEr;constructor
 ·intro h
  split at h
  ·simp at h
  rename_i h1
  split at h
  ·simp at h
  rename_i h2
  split at h
  ·simp at h
  rename_i h3
  split at h
  ·simp at h
  rename_i h4
  split at h
  ·simp at h
  rename_i h5;simp only [not_or,Bool.not_eq_false,Int.not_lt,Classical.not_not] at h1 h2 h3 h4 h5
  have:=bO.1 h1.1;exact ⟨us,ud,by omega,by omega,bO.1 h2.1,fun x hx=>fD.1 h2.2.1 x hx,fun x hx=>fD.1 h2.2.2 x hx,h3.1,h3.2,fun x hx=>fD.1 h4 x hx,fun x hx=>fD.1 h5 x hx⟩
 ·intro h
  have e1:within (sk.length:Int) 1 30=true:=bO.2 (by have:=h.len;omega)
  have e2:within dl 0 10000=true:=bO.2 h.hdl;have e3:sk.all skB=true:=fD.2 h.hsk;have e4:dc.all dcB=true:=fD.2 h.hdc;have e5:dc.all (inB sk)=true:=fD.2 h.inb;have e6:dc.all orB=true:=fD.2 h.ord;have:=h.len2;rw [if_neg (by rw [e1];simp;omega),if_neg (by rw [e2,e3,e4];simp),if_neg (by simp [h.ns,h.nd]),if_neg (by rw [e5];simp),if_neg (by rw [e6];simp)]
end
end KV
end Go.Proofs
