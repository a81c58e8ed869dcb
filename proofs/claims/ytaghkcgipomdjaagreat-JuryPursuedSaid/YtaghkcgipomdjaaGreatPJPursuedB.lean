/- Parts of the proof of JPursued: laws of walks, contracts of functions, plain models. No condition. -/
import Derived.Test.YtaghkcgipomdjaaGreatProg
import Derived.ProofKit
import Derived.Carry
import Derived.Deep.Slices
import Derived.RangeFuncLeaves
import Derived.OwnWalkIn
import Derived.TacticsInMore
import Derived.Shelf.SlSortCmp.WholeK
import Derived.Test.YtaghkcgipomdjaaGreatPJPursuedA
set_option linter.unusedVariables false
set_option linter.unusedSimpArgs false
set_option maxRecDepth 100000
namespace Go.Proofs
namespace KV
open Tryz
section
variable {P:Program} {T:TT} {E:Env} {C C0:Cx} {M M0:Mem} {w w0:World}

def cost(o:Oper):Nat:=match o.op with
 | .alloc _ | .box _ _ | .buildSlice _ _ _ | .makeSlice _ _ _=>1
 | .call c=>match c.callee with
  | .builtin _=>1
  | _=>8
 | _=>0
def ido(ops:List Oper)(base k:Nat):Nat:=base+((ops.take k).map cost).sum

abbrev uI:=AV × Upd × Option (List Nat)
def zP(q:uI):Ft:=⟨q.2.2,q.2.1.map (·.1)⟩

def aRf(o:Oper)(vs:List AV)(m:Mem)(id:Nat):Ask (Option (List Nat)):=fun s=>some (fpQ o vs m id s,s)
theorem bCa{o:Oper}{vs:List AV}{m:Mem}{id:Nat}{s s':AS}{b:Option (List Nat)}(h:aRf o vs m id s=some (b,s')):b=fpQ o vs m id s∧s'=s:=by
 unfold aRf at h
 cases h;exact ⟨rfl,rfl⟩
theorem aMe{o:Oper}{vs:List AV}{m:Mem}{id:Nat}:bP (aRf o vs m id):=fun s r s' e p hp=>by obtain ⟨_,rfl⟩:=bCa e;exact hp
def aMf(P:Program)(T:TT)(E:Env)(ops:List Oper):List Oper→Nat→St→Ask (List Ft × St)
 | [],_,st=>pure ([],st)
 | o::r,id,st=>do
  let go ← iC ops o st
  match go with
  | true=>do
   let vs ← lift (evs st o.op.operands.toList)
   let fp ← aRf o vs st.m id
   let q ← mC P T E o vs st.m id
   let y ← aMf P T E ops r (id+cost o) ⟨put st.t o.dst q.1,upds st.m q.2⟩
   pure (⟨fp,q.2.map (·.1)⟩::y.1,y.2)
  | false=>do
   let y ← aMf P T E ops r (id+cost o) ⟨put st.t o.dst (.tup []),st.m⟩
   pure (⟨some [],[]⟩::y.1,y.2)

def pQ(ops:Array Oper):Nat→Nat→Nat→Bool
 | 0,_,_=>false
 | n+1,k,j=>match ops[j]? with
  | some oj=>(oj.after.any fun e=>Region.binds .any e && e.on == k) || oj.after.any fun e=>Region.binds .any e && pQ ops n k e.on
  | none=>false
def aFs(ops:Array Oper)(k:Nat)(f:Ft):Nat→List Ft→Bool
 | _,[]=>true
 | j,g::r=>(aMi f g || pQ ops 5 k j) && aFs ops k f (j+1) r
def aFt(ops:Array Oper):Nat→List Ft→Bool
 | _,[]=>true
 | k,f::r=>aFs ops k f (k+1) r && aFt ops (k+1) r

def next(o:Oper)(q:uI)(st:St):St:=⟨put st.t o.dst q.1,upds st.m q.2.1⟩

inductive aIp (P:Program) (T:TT) (E:Env) (ops:List Oper):Nat→List Oper→St→List uI→St→Prop
 | nil (id:Nat) (st:St):aIp P T E ops id [] st [] st
 | cons (id:Nat) (o:Oper) (l:List Oper) (st:St) (q:uI) (os:List uI) (fin:St) (h:pT P T E ops o id st q.1 q.2.1 q.2.2) (hr:aIp P T E ops (id+cost o) l (next o q st) os fin):aIp P T E ops id (o::l) st (q::os) fin

theorem nL{ops:List Oper}:∀ {l:List Oper} {id:Nat} {st:St},bP (aMf P T E ops l id st)
 | [],_,_=>aL _
 | _::_,_,_=>by
  unfold aMf;refine aY aAe fun _ => ?_
  split
  ·exact aJ fun _=>aY aMe fun _=>aY nZ fun _=>aY nL fun _=>aL _
  ·exact aY nL fun _=>aL _

theorem pR{ops:List Oper}:∀ (l:List Oper) (id:Nat) {st fin:St} {fts:List Ft} {s s':AS},aMf P T E ops l id st s=some ((fts,fin),s')→aX s'→∃ os:List uI,fts=os.map zP∧aIp P T E ops id l st os fin
 | [],id,st,fin,fts,s,s',h,g=>by
  obtain ⟨he,rfl⟩:=aI h;cases he;exact ⟨[],rfl,.nil _ _⟩
 | o::l,id,st,fin,fts,s,s',h,g=>by
  unfold aMf at h
  obtain ⟨go,s1,h1,k1⟩:=aD h;cases go with
  | true =>
   obtain ⟨vs,s2,h2,k2⟩:=aD k1;obtain ⟨e2,rfl⟩:=aE h2;obtain ⟨au,sa,ha,ka⟩:=aD k2;obtain ⟨rfl,rfl⟩:=bCa ha;obtain ⟨q,s3,h3,k3⟩:=aD ka;obtain ⟨y,s4,h4,k4⟩:=aD k3;obtain ⟨he,rfl⟩:=aI k4;cases he;obtain ⟨os,e5,hl⟩:=pR l _ (fts:=y.1) (fin:=y.2) h4 g;have g3:=nL.good h4 g;exact ⟨(q.1,q.2,fpQ o vs st.m id sa)::os,by rw [gY,e5];rfl,.cons _ _ _ _ (q.1,q.2,fpQ o vs st.m id sa) _ _ ⟨s,sa,.inr ⟨h1,vs,s3,e2,h3,g3,rfl⟩⟩ hl⟩
  | false =>
   obtain ⟨y,s4,h4,k4⟩:=aD k1;obtain ⟨he,rfl⟩:=aI k4;cases he;obtain ⟨os,e5,hl⟩:=pR l _ (fts:=y.1) (fin:=y.2) h4 g;exact ⟨(.tup [],[],some [])::os,by rw [gY,e5];rfl,.cons _ _ _ _ (.tup [],[],some []) _ _ ⟨s,s1,.inl ⟨h1,nL.good h4 g,rfl,rfl,rfl⟩⟩ hl⟩

def nM(P:Program)(T:TT)(E:Env)(ops:List Oper)(base:Nat)(out:Nat→uI)(fin:St):Nat→Array Bool→St→Prop
 | 0,listed,st=>Region.ready .any ops.toArray listed=[]∧st=fin
 | fuel+1,listed,st=>(Region.ready .any ops.toArray listed=[]→st=fin) ∧
  ∀ j∈Region.ready .any ops.toArray listed,∃ o,ops[j]? = some o∧pT P T E ops o (ido ops base j) st (out j).1 (out j).2.1 (out j).2.2∧nM P T E ops base out fin fuel (listed.setIfInBounds j true) (next o (out j) st)

def zQ(ops:List Oper)(listed:Array Bool):Prop:=∀ j oj,ops[j]? = some oj→listed.getD j false=true→∀ e∈oj.after,Region.binds .any e=true→listed.getD e.on false=true

theorem aDs{ops:List Oper}{listed:Array Bool}{i:Nat}(hc:zQ ops listed)(hi:listed.getD i false=false):∀ (n j:Nat),(∀ oj,ops[j]? = some oj→∀ e∈oj.after,Region.binds .any e=true→listed.getD e.on false=true)→pQ ops.toArray n i j=false
 | 0,_,_=>rfl
 | n+1,j,h=>by
  unfold pQ;cases hj:ops[j]? with
  | none=>simp [hj]
  | some oj =>
   simp only [List.getElem?_toArray,hj,Bool.or_eq_false_iff];refine ⟨?_,?_⟩
   ·rw [Bool.eq_false_iff]
    intro hw;obtain ⟨e,he,hb⟩:=Array.any_eq_true'.1 hw;simp only [Bl,beq_iff_eq] at hb
    have:=h oj hj e he hb.1;rw [hb.2,hi] at this
    cases this
   ·rw [Bool.eq_false_iff]
    intro hw;obtain ⟨e,he,hb⟩:=Array.any_eq_true'.1 hw;simp only [Bl] at hb
    have h1:=h oj hj e he hb.1;rw [aDs hc hi n e.on (fun o ho e' Of Al=>hc e.on o ho h1 e' Of Al)] at hb
    cases hb.2

theorem zR{ops:List Oper}{listed:Array Bool}{j:Nat}(hc:zQ ops listed)(hj:∀ oj,ops[j]? = some oj→∀ e∈oj.after,Region.binds .any e=true→listed.getD e.on false=true):zQ ops (listed.setIfInBounds j true):=fun k ok hk hl e he hb=>by
 refine getD_set_true ?_
 by_cases h:j=k
 ·subst h;exact hj ok hk e he hb
 ·rw [getD_set_ne false h] at hl
  exact hc k ok hk hl e he hb

theorem nM.first{ops:List Oper}{base:Nat}{out:Nat→uI}{fin:St}{i:Nat}{oi:Oper}(hi:ops[i]? = some oi):∀ (fuel:Nat) (listed:Array Bool) (st:St),
  (∀ j oj,ops[j]? = some oj→j≠i→listed.getD j true=false→(∀ e∈oj.after,Region.binds .any e=true→e.on≠i)→oi.apart ops.toArray oj=true∧(aMi (zP (out i)) (zP (out j))=true∨pQ ops.toArray 5 i j=true))→zQ ops listed →
  i∈Region.ready .any ops.toArray listed→pT P T E ops oi (ido ops base i) st (out i).1 (out i).2.1 (out i).2.2→nM P T E ops base out fin fuel (listed.setIfInBounds i true) (next oi (out i) st)→nM P T E ops base out fin (fuel+1) listed st:=by
 intro fuel
 induction fuel with
 | zero =>
  intro listed st _ _ hr hs H;refine ⟨fun h=>(by rw [h] at hr;cases hr),fun j hj => ?_⟩
  by_cases hji:j=i
  ·subst hji;exact ⟨oi,hi,hs,H⟩
  ·have:=ready_mono hj hji
   rw [H.1] at this
   cases this
 | succ fuel ih =>
  intro listed st hfree hcl hr hs H;refine ⟨fun h=>(by rw [h] at hr;cases hr),fun j hj => ?_⟩
  by_cases hji:j=i
  ·subst hji;exact ⟨oi,hi,hs,H⟩
  ·obtain ⟨oj,hoj,hsj,hH⟩:=H.2 j (ready_mono hj hji)
   obtain ⟨hjun,K9,Lr,hall⟩:=mem_ready.1 hj;have:K9=oj:=by
    rw [List.getElem?_toArray,hoj] at Lr
    cases Lr;rfl
   subst this;have hnot:∀ e∈K9.after,Region.binds .any e=true→e.on≠i:=fun e he hb heq=>by
    have h1:=hall e he hb;have h0:=(mem_ready.1 hr).1;rw [heq] at h1
    rcases Nat.lt_or_ge i listed.size with h' | h'
    ·simp [h'] at h0 h1;rw [h0] at h1;cases h1
    ·simp [Array.getElem?_eq_none h'] at h1
   have Ji:listed.getD j true=false:=by
    rcases Nat.lt_or_ge j listed.size with h' | h'
    ·simpa [h'] using hjun
    ·exact hjun
   obtain ⟨hap,hok⟩:=hfree j K9 hoj hji Ji hnot;have hjall:∀ oj,ops[j]? = some oj→∀ e∈oj.after,Region.binds .any e=true→listed.getD e.on false=true:=fun o ho e he hb=>by
    rw [hoj] at ho;cases ho;exact hall e he hb
   have hiun:listed.getD i false=false:=by
    have h0:=(mem_ready.1 hr).1
    rcases Nat.lt_or_ge i listed.size with h' | h'
    ·simp [h'] at h0 ⊢;exact h0
    ·simp [Nat.not_lt.2 h']
   replace hok:=hok.resolve_right (by rw [aDs hcl hiun 5 j hjall];simp)
   obtain ⟨m1,m2,m3,m4⟩:=pT.move hap hok hs hsj;have hnx:next K9 (out j) (next oi (out i) st)=next oi (out i) (next K9 (out j) st):=by
    unfold next;simp only [m3,m4]
   refine ⟨K9,hoj,m1,ih _ _ (fun k ok hk hki hun hno=>hfree k ok hk hki ?_ hno) (zR hcl hjall) (ready_mono hr (Ne.symm hji)) m2 ?_⟩
   ·by_cases hjk:j=k
    ·subst hjk;exact Ji
    ·rw [getD_set_ne true hjk] at hun;exact hun
   ·rw [hnx,Array.setIfInBounds_comm _ _ (Ne.symm hji)] at hH
    exact hH

theorem bCb{ops:List Oper}{base k:Nat}{o:Oper}(h:ops[k]? = some o):ido ops base (k+1)=ido ops base k+cost o:=by
 unfold ido;rw [List.take_add_one,h];simp [Nat.add_assoc]

theorem nM.lex{ops:List Oper}{base:Nat}{out:Nat→uI}{fin:St}:∀ (l:List Oper) (k:Nat) (listed:Array Bool) (st:St) (os:List uI),(∀ j,l[j]? = ops[k+j]?)→(∀ j q,os[j]? = some q→out (k+j)=q)→(∀ j,j<k→listed.getD j true=true)→zQ ops listed →
  (∀ i j,k≤i→i<j→(ops[j]?).isSome→aMi (zP (out i)) (zP (out j))=true∨pQ ops.toArray 5 i j=true) →
  Region.lexFrom .any ops.toArray l.length k listed=true→aIp P T E ops (ido ops base k) l st os fin→nM P T E ops base out fin l.length listed st
 | [],k,listed,st,os,_,_,_,_,_,hB,h=>by
  cases h;exact ⟨by simpa [Region.lexFrom] using hB,rfl⟩
 | o::l,k,listed,st,os,hl,ho,hk,hcl,hA,hB,h=>by
  cases h with
  | cons _ _ _ _ q os _ hs hr =>
   have h0:ops[k]? = some o:=by simpa using (hl 0).symm
   have hq:out k=q:=ho 0 q rfl;simp only [tK,Region.lexFrom,Bl] at hB
   obtain ⟨⟨hrd,hf⟩,Og⟩:=hB;have Qn:ops.toArray[k]? = some o:=by rw [List.getElem?_toArray];exact h0
   have Ls:k∈Region.ready .any ops.toArray listed:=by simpa using hrd
   have hkall:∀ oj,ops[k]? = some oj→∀ e∈oj.after,Region.binds .any e=true→listed.getD e.on false=true:=fun o' C9 e he hb=>by
    obtain ⟨_,o2,Jj,hall⟩:=mem_ready.1 Ls;rw [Qn] at Jj;cases Jj
    rw [h0] at C9;cases C9
    exact hall e he hb
   refine nM.first h0 l.length listed st (fun j oj hj hjk hun hno => ?_) hcl Ls (by rw [hq];exact hs) ?_
   ·refine ⟨Region.free_spec Qn hf j oj (by rw [List.getElem?_toArray];exact hj) hjk hun hno,?_⟩
    have hlt:k<j:=by
     rcases Nat.lt_trichotomy k j with h1 | h1 | h1
     ·exact h1
     ·exact absurd h1.symm hjk
     ·rw [hk j h1] at hun;cases hun
    exact hA k j (dH _) hlt (by rw [hj];rfl)
   ·rw [hq]
    refine nM.lex l (k+1) _ _ os (fun j=>by have:=hl (j+1);simpa [Nat.add_assoc,Nat.add_comm 1 j] using this) (fun j q' hj=>by have:=ho (j+1) q' (by simpa using hj);rw [← this];congr 1;omega) (fun j hj => ?_) (zR hcl hkall)
     (fun i j hi=>hA i j (by omega)) Og (by rw [bCb h0];exact hr)
    by_cases e:k=j
    ·subst e
     rcases Nat.lt_or_ge k listed.size with h' | h'
     ·simp [h']
     ·simp [Nat.not_lt.2 h']
    ·rw [getD_set_ne true e];exact hk j (by omega)

theorem xK{ops:Array Oper}{k:Nat}{f:Ft}:∀ (l:List Ft) (j:Nat),aFs ops k f j l=true→∀ i g,l[i]? = some g→aMi f g=true∨pQ ops 5 k (j+i)=true
 | [],_,_,i,g,h=>by simp at h
 | x::l,j,h,i,g,hi=>by
  unfold aFs at h
  rw [Bl,aKf] at h
  cases i with
  | zero=>simp at hi;subst hi;exact h.1
  | succ i =>
   have:=xK l (j+1) h.2 i g (by simpa using hi)
   rwa [show j+1+i=j+(i+1) by omega] at this
theorem lX{ops:Array Oper}:∀ (l:List Ft) (k:Nat),aFt ops k l=true→∀ i j f g,i<j→l[i]? = some f→l[j]? = some g→aMi f g=true∨pQ ops 5 (k+i) (k+j)=true
 | [],_,_,i,j,f,g,_,h,_=>by simp at h
 | x::l,k,h,i,j,f,g,hij,hi,hj=>by
  unfold aFt at h
  rw [Bl] at h
  cases j with
  | zero=>omega
  | succ j =>
   cases i with
   | zero =>
    simp at hi;subst hi
    have:=xK l (k+1) h.1 j g (by simpa using hj)
    rwa [show k+1+j=k+(j+1) by omega] at this
   | succ i =>
    have:=lX l (k+1) h.2 i j f g (by omega) (by simpa using hi) (by simpa using hj)
    rwa [show k+1+i=k+(i+1) by omega,show k+1+j=k+(j+1) by omega] at this

theorem nM.sound(hT:∀ t i,T t=some i→bY P t=some i)(hE:kS P E){ops:List Oper}{base:Nat}{out:Nat→uI}{fin:St}{ro:Option Nat}{n:Nat}{Q:Exit→Act→World→Prop}(hQ:∀ a' w',Sim P C0 M0 w0 fin a' w'→Q .normal a' w') :
  ∀ (fuel:Nat) (listed:Array Bool) (st:St) (a:Act) (w:World),nM P T E ops base out fin fuel listed st→Sim P C0 M0 w0 st a w→wpAnyIn (Fen ro) n P .any ops.toArray Q fuel listed a w
 | 0,listed,st,a,w,h,hs=>⟨h.1,hQ _ _ (h.2 ▸ hs)⟩
 | fuel+1,listed,st,a,w,h,hs=>by
  refine ⟨fun h0=>hQ _ _ (h.1 h0 ▸ hs),fun j hj => ?_⟩
  obtain ⟨o,ho,hst,hr⟩:=h.2 j hj;have:=hst.op hT hE C0 M0 w0 a w hs ro n (wpAnyIn (Fen ro) n P .any ops.toArray Q fuel (listed.setIfInBounds j true)) Q (fun a' w' B1=>nM.sound hT hE hQ fuel _ _ _ _ hr B1)
  unfold wpOpIn;simp only [List.getElem?_toArray,ho];exact this
end
section
variable {P:Program} {T:TT} {E:Env} {C C0:Cx} {M M0:Mem} {w w0:World}

mutual
def fzA(id n:Nat)(cs:List PV):AV→AV
 | .own i=>match Nat.beq i id with
  | true => .p (.sl n cs)
  | false => .own i
 | .arr i off k=>match Nat.beq i id with
  | true => .p (.sl k ((cs.drop off).take (k*(cs.length / n))))
  | false => .arr i off k
 | .ptr i off=>match Nat.beq i id with
  | true => .rp cs off
  | false => .ptr i off
 | .agg l=>iZ (fzL id n cs l)
 | .tup l => .tup (fzL id n cs l)
 | .fn f a b => .fn f (fzL id n cs a) (fzL id n cs b)
 | .p x => .p x
 | .rp cs o => .rp cs o
 | .yld l => .yld l
 | .kb b => .kb b
 | .mp i => .mp i
 | .pa i q => .pa i q
 | .any => .any
def fzL(id n:Nat)(cs:List PV):List AV→List AV
 | []=>[]
 | x::r=>fzA id n cs x::fzL id n cs r
end

theorem uG(id n:Nat)(cs:List PV):∀ l:List AV,(fzL id n cs l).length=l.length
 | []=>by simp [fzL]
 | x::r=>by simp [fzL,uG id n cs r]

section
variable {id ty n:Nat} {cs:List PV} (hM:aP P C M w) (ho:M[id]? = some (some (.row ty n cs)))
include hM ho
mutual
theorem aDr:∀ {x:AV} {u:Value},Rep C M w x u→Rep (C.close id true) (aU M id (some .dead)) w (fzA id n cs x) u
 | .own i,u,h=>by
  have hL:=hM.le (cP true ho rfl);simp only [fzA]
  split
  ·rename_i hb
   have:=Nat.eq_of_beq_eq_true hb;subst this;exact .p _ _ (tG hM ho h)
  ·exact h.mono hL
 | .arr i off k,u,h=>by
  have hL:=hM.le (cP true ho rfl);simp only [fzA]
  split
  ·rename_i hb
   have:=Nat.eq_of_beq_eq_true hb;subst this;cases h with
   | arr _ _ _ u h0 ha hrow =>
    rcases hrow _ ho rfl with ⟨rfl,p,cap,rfl,hc⟩ | ⟨b,cap,rfl,hn,hc,hb⟩
    ·rw [Nat.zero_mul,List.take_zero]
     exact .p _ _ (.sl 0 [] p cap (fun _=>undef) (Nat.zero_le _) hc (fun i h=>by simp at h) (fun i h=>by simp at h) (fun i h=>by simp at h))
    ·rcases hM.row _ _ _ _ ho with ⟨Ee,_⟩ | ⟨b',arr,inf,Al,q1,q2,q3,q4,q5,q6,q7,q8⟩
     ·rw [hb] at Ee;cases Ee
     ·rw [hb] at Al;cases Al
      have hle:cs.length≤arr.size:=by rw [q3,q4];exact Nat.mul_le_mul_right _ q5
      have hlt:∀ i,i<((cs.drop off).take (k*(cs.length / n))).length→off+i<cs.length:=fun i hi=>by simp at hi;omega
      refine .p _ _ (.sl k _ _ cap (fun j=>arr.getD (off+j) undef) hn hc (fun j hj=>⟨b,off,rfl,.inr ⟨rfl,hb⟩,bJ q1 (by have:=hlt j hj;omega)⟩) (fun j hj => ?_) (fun j hj=>q8 _ (hlt j hj)))
      simp only [List.getElem_take,List.getElem_drop];exact (q7 _ (hlt j hj)).mono (fun _ h => .inl h) (fun _ _=>rfl)
  ·exact h.mono hL
 | .ptr i off,u,h=>by
  have hL:=hM.le (cP true ho rfl);simp only [fzA]
  split
  ·rename_i hb
   have:=Nat.eq_of_beq_eq_true hb;subst this;obtain ⟨b,rfl,hb⟩:=fK h (iD ho rfl)
   rcases hM.row _ _ _ _ ho with ⟨hn,_⟩ | ⟨b',arr,inf,Al,q1,q2,q3,q4,q5,q6,q7,q8⟩
   ·rw [hb] at hn;cases hn
   ·rw [hb] at Al;cases Al
    have hle:cs.length≤arr.size:=by rw [q3,q4];exact Nat.mul_le_mul_right _ q5
    have:=Rep.rp (C:=C.close i true) (M:=aU M i (some .dead)) (w:=w) cs off b 0 (fun j=>arr.getD j undef) (fun i hi=>⟨.inr ⟨rfl,hb⟩,by rw [fG];exact bJ q1 (by omega)⟩) (fun i hi=>(q7 i hi).mono (fun _ h => .inl h) (fun _ _=>rfl)) q8
    rwa [fG] at this
  ·exact h.mono hL
 | .agg l,u,h=>by
  cases h with
  | agg _ vs h0 h1 h2 =>
   simp only [fzA];obtain ⟨q1,q2⟩:=jN (us:=fun i=>vs.getD i undef) h2
   exact kH (fun i hi=>h0 i (by omega)) (by omega) q2
 | .tup l,u,h=>by
  cases h with
  | tup _ vs h1 h2 =>
   simp only [fzA];obtain ⟨q1,q2⟩:=jN (us:=fun i=>vs.getD i undef) h2
   exact .tup _ _ (by omega) q2
 | .fn f a b,u,h=>by
  cases h with
  | fn _ _ _ us vs h1 h2 h3 h4 =>
   simp only [fzA];obtain ⟨q1,q2⟩:=jN (us:=fun i=>us.getD i undef) h3
   obtain ⟨r1,r2⟩:=jN (us:=fun i=>vs.getD i undef) h4
   exact .fn f _ _ us vs (by omega) (by omega) q2 r2
 | .p x,u,h=>by simp only [fzA];exact h.mono (hM.le (cP true ho rfl))
 | .rp cs o,u,h=>by simp only [fzA];exact h.mono (hM.le (cP true ho rfl))
 | .yld l,u,h=>by simp only [fzA];exact h.mono (hM.le (cP true ho rfl))
 | .kb b,u,h=>by simp only [fzA];exact h.mono (hM.le (cP true ho rfl))
 | .mp i,u,h=>by simp only [fzA];exact h.mono (hM.le (cP true ho rfl))
 | .pa i q,u,h=>by simp only [fzA];exact h.mono (hM.le (cP true ho rfl))
 | .any,u,h=>by simp only [fzA];exact .any _
theorem jN:∀ {l:List AV} {us:Nat→Value},(∀ i (h:i<l.length),Rep C M w l[i] (us i))→(fzL id n cs l).length=l.length∧∀ i (h:i<(fzL id n cs l).length),Rep (C.close id true) (aU M id (some .dead)) w (fzL id n cs l)[i] (us i)
 | [],_,_=>⟨uG ..,  fun i h=>by simp [fzL] at h⟩
 | x::r,us,h=>by
  refine ⟨uG ..,fun i hi => ?_⟩
  have:=hM;have:=ho;obtain ⟨_,q2⟩:=jN (l:=r) (us:=fun i=>us (i+1)) (fun i hi=>h (i+1) (by simpa using hi))
  have e:fzL id n cs (x::r)=fzA id n cs x::fzL id n cs r:=by simp only [fzL]
  simp only [e];cases i with
  | zero=>exact aDr (h 0 (by simp))
  | succ i=>exact q2 i (by simpa [uG] using hi)
end
end

def fzO(id n:Nat)(cs:List PV):Option AO→Option AO
 | some (.box ty l)=>some (.box ty (fzL id n cs l))
 | x=>x
def Oc(id:Nat)(st:St):Option St:=match eQ st.m id with
 | some r=>some ⟨fzL id r.2.1 r.2.2 st.t,(aU st.m id (some .dead)).map (fzO id r.2.1 r.2.2)⟩
 | none=>none

theorem iT{id n:Nat}{cs:List PV}{m:Mem}{j:Nat}{o':AO}(h:(m.map (fzO id n cs))[j]? = some (some o')):∃ o,m[j]? = some (some o)∧fzO id n cs (some o)=some o':=by
 rw [eX] at h
 cases hm:m[j]? with
 | none=>rw [hm] at h;cases h
 | some x =>
  rw [hm] at h
  cases x with
  | none=>simp [fzO] at h
  | some o=>exact ⟨o,rfl,by simpa using h⟩
theorem aRe{id n:Nat}{cs:List PV}{o:AO}{ty k:Nat}{ds:List PV}(h:fzO id n cs (some o)=some (.row ty k ds)):o = .row ty k ds:=by cases o <;> simp [fzO] at h ⊢;exact h
theorem nK{id n:Nat}{cs:List PV}{o o':AO}(h:fzO id n cs (some o)=some o'):o'.live=o.live:=by cases o <;> (simp [fzO] at h;subst h;rfl)

theorem aUd{id:Nat}{st Ah:St}{a:Act}(hf:Oc id st=some Ah)(hs:Sim P C0 M0 w0 st a w):Sim P C0 M0 w0 Ah a w:=by
 obtain ⟨C,hS,hM,hF,hD⟩:=hs;unfold Oc at hf
 split at hf
 ·rename_i r hr
  cases hf;have ho:=cS hr;have hk:=cP (C:=C) (w:=w) true ho rfl;have hm:=nP hM true ho rfl;have hL:Le (C.close id true) (C.close id true) (aU st.m id (some .dead)) ((aU st.m id (some .dead)).map (fzO id r.2.1 r.2.2)) w w:=by
   refine ⟨fun i o h => ?_,fun i o h ty n cs hm => ?_,fun i o h o' hm hl => ?_,fun _ h=>h,fun _ _=>rfl⟩
   ·rw [eX,h]
    cases o <;> exact ⟨_,rfl⟩
   ·obtain ⟨o2,h2,h3⟩:=iT hm
    rw [aRe h3] at h2
    exact ⟨_,h2⟩
   ·obtain ⟨o2,h2,h3⟩:=iT hm
    rw [h] at h2;cases h2
    exact ⟨by rw [← nK h3];exact hl,rfl,rfl⟩
  have J4:Fr (C.close id true) (aU st.m id (some .dead)) w (C.close id true) ((aU st.m id (some .dead)).map (fzO id r.2.1 r.2.2)) w:=by
   refine ⟨rfl,rfl,rfl,dH _,fun _ _ _=>rfl,fun i o h=>⟨hL.ids i o h,rfl,rfl⟩,hL.row,fun i o h o' hm hl=>(hL.liv i o h o' hm hl).1,fun i o b h hl hb => ?_,fun _ h=>h,fun _ h => .inl h⟩
   obtain ⟨o2,h2,h3⟩:=iT h;exact .inr ⟨i,o2,h2,by rw [← nK h3];exact hl,hb⟩
  refine ⟨C.close id true,⟨?_,fun i hi => ?_⟩,⟨fun i ty n cs h => ?_,fun i ty cs h => ?_,fun i es cl h => ?_,fun i i' o1 o2 b h1 l1 h2 l2 => ?_,fun i o b h hl => ?_,hm.Fs,fun i o b h hl => ?_⟩,(hF.trans hk).trans J4,(hD.fr hM (fJ rfl) hk).fr hm (fun i to ti sz L q=>by
   obtain ⟨o2,h2,h3⟩:=iT q;cases o2 with
   | pk=>simp only [fzO,Option.some.injEq] at h3;rw [← h3];exact h2
   | _=>simp [fzO] at h3) J4⟩
  ·rw [uG];exact hS.size
  ·exact ((jN hM ho hS.rep).2 i hi).mono hL
  ·obtain ⟨o2,h2,h3⟩:=iT h
   rw [aRe h3] at h2
   exact hm.row _ _ _ _ h2
  ·obtain ⟨o2,h2,h3⟩:=iT h
   cases o2 with
   | box Cn l =>
    simp only [fzO,Option.some.injEq,AO.box.injEq] at h3
    obtain ⟨rfl,rfl⟩:=h3;have hne:i≠id:=fun e=>by
     subst e;rw [aT] at h2;cases h2
    obtain ⟨b,arr,q0,q1,q2,q3,q4⟩:=hM.box _ _ _ ((aO st.m id i _ _ (Ne.symm hne)).1 h2);obtain ⟨r1,r2⟩:=jN hM ho (us:=fun j=>arr.getD j undef) q3
    exact ⟨b,arr,q0,q1,by rw [r1];exact q2,fun j hj=>(r2 j hj).mono hL,fun j hj=>q4 j (by rw [r1] at hj;exact hj)⟩
   | row=>simp [fzO] at h3
   | mp=>simp [fzO] at h3
   | pk=>simp [fzO] at h3
   | dead=>simp [fzO] at h3
  ·obtain ⟨o2,h2,h3⟩:=iT h
   have:o2 = .mp es cl:=by cases o2 <;> simp [fzO] at h3 ⊢;exact h3
   subst this;obtain ⟨b,arr,q0,q1,q2,q3⟩:=hm.mp _ _ _ h2;refine ⟨b,arr,q0,q1,q2,fun j hj => ?_⟩
   obtain ⟨en,r1,r2,r3,r4⟩:=q3 j hj;exact ⟨en,r1,r2,r3,r4.mono hL.F hL.fz⟩
  ·obtain ⟨o3,h3,h4⟩:=iT h1
   obtain ⟨o5,h5,h6⟩:=iT h2;exact hm.inj i i' o3 o5 b h3 (by rw [← nK h4];exact l1) h5 (by rw [← nK h6];exact l2)
  ·obtain ⟨o3,h3,h4⟩:=iT h
   exact hm.nF i o3 b h3 (by rw [← nK h4];exact hl)
  ·obtain ⟨o3,h3,h4⟩:=iT h
   exact hm.lt i o3 b h3 (by rw [← nK h4];exact hl)
 ·cases hf

def forget:List Nat→List AV→List AV
 | [],l=>l
 | i::r,l=>forget r (l.set i .any)
theorem uH:∀ (g:List Nat) {ts:List AV} {us:Array Value},dP C M w ts us→dP C M w (forget g ts) us
 | [],_,_,h=>h
 | i::r,ts,us,h=>by
  refine uH r ⟨by simpa using h.size,fun j hj => ?_⟩
  simp only [tM] at hj
  rw [wH]
  split
  ·exact .any _
  ·exact h.rep j hj
theorem aFr(g:List Nat){st:St}{a:Act}(hs:Sim P C0 M0 w0 st a w):Sim P C0 M0 w0 ⟨forget g st.t,st.m⟩ a w:=by
 obtain ⟨C,hS,hM,hF,hD⟩:=hs;exact ⟨C,uH g hS,hM,hF,hD⟩
end
section
variable {P:Program} {T:TT} {E:Env} {C C0:Cx} {M M0:Mem} {w w0:World}

def Cx.shut(C:Cx)(id:Nat):Cx:={ ι:=C.ι,κ:=C.κ,F:=fun b=>C.F b∨aMy (C.κ id) b }
section
variable {id to ti sz:Nat} {L:List (Nat × List PV)}
variable (q:aMz C M w id to ti sz L) (ho:M[id]? = some (some (.pk to ti sz L))) (hL:Le C (C.shut id) M (aU M id (some .dead)) w w)
include q ho hL
end

def fzP(id:Nat)(st:St):Option St:=none
theorem aUb{id:Nat}{st Ah:St}{a:Act}(h:fzP id st=some Ah)(hs:Sim P C0 M0 w0 st a w):Sim P C0 M0 w0 Ah a w:=by
 unfold fzP at h
 cases h
def nlP(i to ti sz:Nat)(st:St):Option St:=none
theorem aUc{i to ti sz:Nat}{st Ah:St}{a:Act}(h:nlP i to ti sz st=some Ah)(hs:Sim P C0 M0 w0 st a w):Sim P C0 M0 w0 Ah a w:=by
 unfold nlP at h
 cases h
end
section
variable {P:Program} {T:TT} {E:Env} {C C0:Cx} {M M0:Mem} {w w0:World}

inductive Cz where
 | bx (cs:List PV)
 | mp (es:List (Value × PV))
mutual
def czA(id:Nat)(y:Cz):AV→AV
 | .ptr i off=>match Nat.beq i id with
  | true=>match y with
   | .bx cs => .rp cs off
   | .mp _ => .ptr i off
  | false => .ptr i off
 | .mp i=>match Nat.beq i id with
  | true=>match y with
   | .mp es => .p (.mp es)
   | .bx _ => .mp i
  | false => .mp i
 | .agg l=>iZ (czL id y l)
 | .tup l => .tup (czL id y l)
 | .fn f a b => .fn f (czL id y a) (czL id y b)
 | .own i => .own i
 | .arr i off k => .arr i off k
 | .p x => .p x
 | .rp cs o => .rp cs o
 | .yld l => .yld l
 | .kb b => .kb b
 | .pa i q => .pa i q
 | .any => .any
def czL(id:Nat)(y:Cz):List AV→List AV
 | []=>[]
 | x::r=>czA id y x::czL id y r
end
theorem uF(id:Nat)(y:Cz):∀ l:List AV,(czL id y l).length=l.length
 | []=>rfl
 | x::r=>by simp only [czL,tK,uF id y r]

def Iq:AV→Option PV
 | .p x=>some x
 | .kb b=>some (.v (.bool b))
 | .rp cs off=>some (.rp cs off)
 | _=>none
def aTy:List AV→Option (List PV)
 | []=>some []
 | x::r=>match Iq x with
  | some y=>match aTy r with
   | some l=>some (y::l)
   | none=>none
  | none=>none
theorem aRc:∀ {l:List AV} {cs:List PV},aTy l=some cs→cs.length=l.length∧∀ (i:Nat) (h:i<l.length) (h':i<cs.length),Iq l[i]=some cs[i]
 | [],cs,h=>by cases h;exact ⟨rfl,fun i h=>by simp at h⟩
 | x::r,cs,h=>by
  unfold aTy at h
  split at h
  ·rename_i y hy
   split at h
   ·rename_i k hk
    cases h;obtain ⟨q1,q2⟩:=aRc hk;refine ⟨by simp [q1],fun i h1 h2 => ?_⟩
    cases i with
    | zero=>exact hy
    | succ i=>exact q2 i (by simpa using h1) (by simpa using h2)
   ·cases h
  ·cases h
theorem bBy{x:AV}{y:PV}{u:Value}(e:Iq x=some y)(h:Rep C M w x u):cB C.F w y u:=by
 cases x <;> simp [Iq] at e
 ·subst e;cases h;assumption
 ·subst e;cases h;exact .rp _ _ _ _ _ ‹_› ‹_› ‹_›
 ·subst e;cases h;exact .v _
def bHf(y:Cz)(o:AO):Prop:=match y with
 | .bx cs=>∃ ty l,o = .box ty l∧aTy l=some cs
 | .mp es=>∃ cl,o = .mp es cl
theorem bHf.live{y:Cz}{o:AO}(h:bHf y o):o.live=true:=by
 cases y with
 | bx cs=>obtain ⟨ty,l,rfl,_⟩:=h;rfl
 | mp es=>obtain ⟨cl,rfl⟩:=h;rfl

section
variable {id:Nat} {y:Cz} {o:AO} (hM:aP P C M w) (ho:M[id]? = some (some o)) (hz:bHf y o)
include hM ho hz
mutual
theorem aTz:∀ {x:AV} {u:Value},Rep C M w x u→Rep (C.close id true) (aU M id (some .dead)) w (czA id y x) u
 | .ptr i off,u,h=>by
  have hL:=hM.le (cP true ho hz.live);simp only [czA]
  split
  ·rename_i hb
   have:=Nat.eq_of_beq_eq_true hb;subst this;cases y with
   | mp es=>exact h.mono hL
   | bx cs =>
    obtain ⟨ty,l,rfl,hl⟩:=hz;obtain ⟨b,rfl,hb⟩:=fK h (iD ho rfl);obtain ⟨b',arr,Al,q1,q2,q3,q4⟩:=hM.box _ _ _ ho;rw [hb] at Al;cases Al
    obtain ⟨r1,r2⟩:=aRc hl;have:=Rep.rp (C:=C.close i true) (M:=aU M i (some .dead)) (w:=w) cs off b 0 (fun j=>arr.getD j undef) (fun i hi=>⟨.inr ⟨rfl,hb⟩,by rw [fG];exact bJ q1 (by omega)⟩)
     (fun i hi=>(bBy (r2 i (by omega) hi) (q3 i (by omega))).mono (fun _ h => .inl h) (fun _ _=>rfl)) (fun i hi=>q4 i (by omega))
    rwa [fG] at this
  ·exact h.mono hL
 | .mp i,u,h=>by
  have hL:=hM.le (cP true ho hz.live);simp only [czA]
  split
  ·rename_i hb
   have:=Nat.eq_of_beq_eq_true hb;subst this;cases y with
   | bx cs=>exact h.mono hL
   | mp es =>
    obtain ⟨cl,rfl⟩:=hz;obtain ⟨b,arr,rfl,hb,q1,q2,q3⟩:=aGc hM h (aZ.2 ho);refine .p _ _ (.mp es b cl arr (fun j=>(arr.getD j ⟨undef,undef,0⟩).val) (.inr ⟨rfl,hb⟩) q1 q2 (fun j hj => ?_) fun j hj => ?_)
    ·obtain ⟨e,r1,r2,r3,r4⟩:=q3 j hj
     exact ⟨e,r1,r2,r3,by rw [Bb,r1];rfl⟩
    ·obtain ⟨e,r1,r2,r3,r4⟩:=q3 j hj
     rw [Bb,r1];exact r4.mono (fun _ h => .inl h) (fun _ _=>rfl)
  ·exact h.mono hL
 | .agg l,u,h=>by
  cases h with
  | agg _ vs h0 h1 h2 =>
   simp only [czA];obtain ⟨q1,q2⟩:=jM (us:=fun i=>vs.getD i undef) h2
   exact kH (fun i hi=>h0 i (by omega)) (by omega) q2
 | .tup l,u,h=>by
  cases h with
  | tup _ vs h1 h2 =>
   simp only [czA];obtain ⟨q1,q2⟩:=jM (us:=fun i=>vs.getD i undef) h2
   exact .tup _ _ (by omega) q2
 | .fn f a b,u,h=>by
  cases h with
  | fn _ _ _ us vs h1 h2 h3 h4 =>
   simp only [czA];obtain ⟨q1,q2⟩:=jM (us:=fun i=>us.getD i undef) h3
   obtain ⟨r1,r2⟩:=jM (us:=fun i=>vs.getD i undef) h4
   exact .fn f _ _ us vs (by omega) (by omega) q2 r2
 | .own i,u,h=>by simp only [czA];exact h.mono (hM.le (cP true ho hz.live))
 | .arr i off k,u,h=>by simp only [czA];exact h.mono (hM.le (cP true ho hz.live))
 | .p x,u,h=>by simp only [czA];exact h.mono (hM.le (cP true ho hz.live))
 | .rp cs o,u,h=>by simp only [czA];exact h.mono (hM.le (cP true ho hz.live))
 | .yld l,u,h=>by simp only [czA];exact h.mono (hM.le (cP true ho hz.live))
 | .kb b,u,h=>by simp only [czA];exact h.mono (hM.le (cP true ho hz.live))
 | .pa i q,u,h=>by simp only [czA];exact h.mono (hM.le (cP true ho hz.live))
 | .any,u,h=>by simp only [czA];exact .any _
theorem jM:∀ {l:List AV} {us:Nat→Value},(∀ i (h:i<l.length),Rep C M w l[i] (us i))→(czL id y l).length=l.length∧∀ i (h:i<(czL id y l).length),Rep (C.close id true) (aU M id (some .dead)) w (czL id y l)[i] (us i)
 | [],_,_=>by
  have:=hM;have:=ho;have:=hz;exact ⟨uF ..,fun i h=>by simp [czL] at h⟩
 | x::r,us,h=>by
  refine ⟨uF ..,fun i hi => ?_⟩
  obtain ⟨_,q2⟩:=jM (l:=r) (us:=fun i=>us (i+1)) (fun i hi=>h (i+1) (by simpa using hi))
  have e:czL id y (x::r)=czA id y x::czL id y r:=by simp only [czL]
  simp only [e];cases i with
  | zero=>exact aTz (h 0 (by simp))
  | succ i=>exact q2 i (by simpa [uF] using hi)
end
end

def czO(id:Nat)(y:Cz):Option AO→Option AO
 | some (.box ty l)=>some (.box ty (czL id y l))
 | x=>x
def bNe(m:Mem)(id:Nat):Option Cz:=match bH m id with
 | some (.box _ l)=>(aTy l).map .bx
 | some (.mp es _)=>some (.mp es)
 | _=>none
def fzM(id:Nat)(st:St):Option St:=match bNe st.m id with
 | some y=>some ⟨czL id y st.t,(aU st.m id (some .dead)).map (czO id y)⟩
 | none=>none
theorem bBz{m:Mem}{id:Nat}{y:Cz}(h:bNe m id=some y):∃ o,m[id]? = some (some o)∧bHf y o:=by
 unfold bNe at h
 split at h
 ·rename_i ty l ho
  cases hl:aTy l with
  | none=>rw [hl] at h;cases h
  | some cs=>rw [hl] at h;cases h;exact ⟨_,aZ.1 ho,ty,l,rfl,hl⟩
 ·rename_i es cl ho
  cases h;exact ⟨_,aZ.1 ho,cl,rfl⟩
 ·cases h
theorem iS{id:Nat}{y:Cz}{m:Mem}{j:Nat}{o':AO}(h:(m.map (czO id y))[j]? = some (some o')):∃ o,m[j]? = some (some o)∧czO id y (some o)=some o':=by
 rw [eX] at h
 cases hm:m[j]? with
 | none=>rw [hm] at h;cases h
 | some x =>
  rw [hm] at h
  cases x with
  | none=>simp [czO] at h
  | some o=>exact ⟨o,rfl,by simpa using h⟩
theorem aRd{id:Nat}{y:Cz}{o:AO}{ty k:Nat}{ds:List PV}(h:czO id y (some o)=some (.row ty k ds)):o = .row ty k ds:=by cases o <;> simp [czO] at h ⊢;exact h
theorem nJ{id:Nat}{y:Cz}{o o':AO}(h:czO id y (some o)=some o'):o'.live=o.live:=by cases o <;> (simp [czO] at h;subst h;rfl)

theorem aUa{id:Nat}{st Ah:St}{a:Act}(hf:fzM id st=some Ah)(hs:Sim P C0 M0 w0 st a w):Sim P C0 M0 w0 Ah a w:=by
 obtain ⟨C,hS,hM,hF,hD⟩:=hs;unfold fzM at hf
 split at hf
 ·rename_i y hr
  cases hf;obtain ⟨o,ho,hz⟩:=bBz hr;have hk:=cP (C:=C) (w:=w) true ho hz.live;have hm:=nP hM true ho hz.live;have hL:Le (C.close id true) (C.close id true) (aU st.m id (some .dead)) ((aU st.m id (some .dead)).map (czO id y)) w w:=by
   refine ⟨fun i o h => ?_,fun i o h ty n cs hm => ?_,fun i o h o' hm hl => ?_,fun _ h=>h,fun _ _=>rfl⟩
   ·rw [eX,h]
    cases o <;> exact ⟨_,rfl⟩
   ·obtain ⟨o2,h2,h3⟩:=iS hm
    rw [aRd h3] at h2
    exact ⟨_,h2⟩
   ·obtain ⟨o2,h2,h3⟩:=iS hm
    rw [h] at h2;cases h2
    exact ⟨by rw [← nJ h3];exact hl,rfl,rfl⟩
  have J4:Fr (C.close id true) (aU st.m id (some .dead)) w (C.close id true) ((aU st.m id (some .dead)).map (czO id y)) w:=by
   refine ⟨rfl,rfl,rfl,dH _,fun _ _ _=>rfl,fun i o h=>⟨hL.ids i o h,rfl,rfl⟩,hL.row,fun i o h o' hm hl=>(hL.liv i o h o' hm hl).1,fun i o b h hl hb => ?_,fun _ h=>h,fun _ h => .inl h⟩
   obtain ⟨o2,h2,h3⟩:=iS h;exact .inr ⟨i,o2,h2,by rw [← nJ h3];exact hl,hb⟩
  refine ⟨C.close id true,⟨?_,fun i hi => ?_⟩,⟨fun i ty n cs h => ?_,fun i ty cs h => ?_,fun i es cl h => ?_,fun i i' o1 o2 b h1 l1 h2 l2 => ?_,fun i o b h hl => ?_,hm.Fs,fun i o b h hl => ?_⟩,(hF.trans hk).trans J4,(hD.fr hM (fJ rfl) hk).fr hm (fun i to ti sz L q=>by
   obtain ⟨o2,h2,h3⟩:=iS q;cases o2 with
   | pk=>simp only [czO,Option.some.injEq] at h3;rw [← h3];exact h2
   | _=>simp [czO] at h3) J4⟩
  ·rw [uF];exact hS.size
  ·exact ((jM hM ho hz hS.rep).2 i hi).mono hL
  ·obtain ⟨o2,h2,h3⟩:=iS h
   rw [aRd h3] at h2
   exact hm.row _ _ _ _ h2
  ·obtain ⟨o2,h2,h3⟩:=iS h
   cases o2 with
   | box Cn l =>
    simp only [czO,Option.some.injEq,AO.box.injEq] at h3
    obtain ⟨rfl,rfl⟩:=h3;have hne:i≠id:=fun e=>by
     subst e;rw [aT] at h2;cases h2
    obtain ⟨b,arr,q0,q1,q2,q3,q4⟩:=hM.box _ _ _ ((aO st.m id i _ _ (Ne.symm hne)).1 h2);obtain ⟨r1,r2⟩:=jM hM ho hz (us:=fun j=>arr.getD j undef) q3
    exact ⟨b,arr,q0,q1,by rw [r1];exact q2,fun j hj=>(r2 j hj).mono hL,fun j hj=>q4 j (by rw [r1] at hj;exact hj)⟩
   | row=>simp [czO] at h3
   | mp=>simp [czO] at h3
   | pk=>simp [czO] at h3
   | dead=>simp [czO] at h3
  ·obtain ⟨o2,h2,h3⟩:=iS h
   have:o2 = .mp es cl:=by cases o2 <;> simp [czO] at h3 ⊢;exact h3
   subst this;obtain ⟨b,arr,q0,q1,q2,q3⟩:=hm.mp _ _ _ h2;refine ⟨b,arr,q0,q1,q2,fun j hj => ?_⟩
   obtain ⟨en,r1,r2,r3,r4⟩:=q3 j hj;exact ⟨en,r1,r2,r3,r4.mono hL.F hL.fz⟩
  ·obtain ⟨o3,h3,h4⟩:=iS h1
   obtain ⟨o5,h5,h6⟩:=iS h2;exact hm.inj i i' o3 o5 b h3 (by rw [← nJ h4];exact l1) h5 (by rw [← nJ h6];exact l2)
  ·obtain ⟨o3,h3,h4⟩:=iS h
   exact hm.nF i o3 b h3 (by rw [← nJ h4];exact hl)
  ·obtain ⟨o3,h3,h4⟩:=iS h
   exact hm.lt i o3 b h3 (by rw [← nJ h4];exact hl)
 ·cases hf
end
section
variable {P:Program} {T:TT} {E:Env} {C C0:Cx} {M M0:Mem} {w w0:World}

def idx:List Nat→Nat→Nat→Option Nat
 | [],_,_=>none
 | j::r,i,n=>match Nat.beq j i with
  | true=>some n
  | false=>idx r i (n+1)
def rnI(k:Nat)(ids:List Nat)(i:Nat):Option Nat:=match Nat.blt i k with
 | true=>some i
 | false=>idx ids i k
mutual
def mpA(f:Nat→Option Nat):AV→Option AV
 | .own i=>(f i).map .own
 | .arr i off n=>(f i).map fun j => .arr j off n
 | .ptr i off=>(f i).map fun j => .ptr j off
 | .mp i=>(f i).map .mp
 | .pa i q=>(f i).map fun j => .pa j q
 | .agg l=>(mpL f l).map .agg
 | .tup l=>(mpL f l).map .tup
 | .fn g a b=>match mpL f a with
  | some a'=>(mpL f b).map fun b' => .fn g a' b'
  | none=>none
 | .p x=>some (.p x)
 | .rp cs o=>some (.rp cs o)
 | .yld l=>some (.yld l)
 | .kb b=>some (.kb b)
 | .any=>some .any
def mpL(f:Nat→Option Nat):List AV→Option (List AV)
 | []=>some []
 | x::r=>match mpA f x with
  | some y=>(mpL f r).map (y :: ·)
  | none=>none
end
def mpO(f:Nat→Option Nat):AO→Option AO
 | .row ty n cs=>some (.row ty n cs)
 | .box ty l=>(mpL f l).map (.box ty ·)
 | .mp es cl=>some (.mp es cl)
 | .pk to ti sz L=>some (.pk to ti sz L)
 | .dead=>some .dead
def mpM(f:Nat→Option Nat):Mem→Option Mem
 | []=>some []
 | none::r=>(mpM f r).map (none :: ·)
 | some o::r=>match mpO f o with
  | some o'=>(mpM f r).map (some o' :: ·)
  | none=>none
abbrev rnL(k:Nat)(ids:List Nat):=mpL (rnI k ids)
abbrev rnM(k:Nat)(ids:List Nat):=mpM (rnI k ids)
def at?(m:Mem)(i:Nat):Option AO:=bH m i
def distinct(k:Nat):List Nat→Bool
 | []=>true
 | i::r=>match Nat.ble k i with
  | true=>match r.all (fun j => !Nat.beq j i) with
   | true=>distinct k r
   | false=>false
  | false=>false
def firsts(m:Mem):Nat→Nat→Mem
 | 0,_=>[]
 | k+1,i=>at? m i::firsts m k (i+1)
def pick(k:Nat)(ids:List Nat)(st:St):Option St:=match distinct k ids with
 | true=>match rnL k ids st.t with
  | some t=>(rnM k ids (firsts st.m k 0++ids.map (at? st.m))).map (⟨t,·⟩)
  | none=>none
 | false=>none

theorem uE:∀ (ids:List Nat) (i n j:Nat),idx ids i n=some j→n≤j∧ids[j-n]? = some i
 | [],i,n,j,h=>by cases h
 | a::r,i,n,j,h=>by
  unfold idx at h
  split at h
  ·rename_i hb
   cases h;exact ⟨dH _,by rw [aVe];simp [Nat.eq_of_beq_eq_true hb]⟩
  ·obtain ⟨h1,h2⟩:=uE r i (n+1) j h
   refine ⟨by omega,?_⟩
   rw [show j-n=(j-(n+1))+1 by omega]
   simpa using h2
theorem gU{k:Nat}:∀ {ids:List Nat},distinct k ids=true→(∀ i∈ids,k≤i)∧ids.Nodup
 | [],_=>⟨by simp,.nil⟩
 | a::r,h=>by
  unfold distinct at h
  split at h
  ·rename_i h1
   split at h
   ·rename_i h2
    obtain ⟨h3,h4⟩:=gU h;refine ⟨fun i hi => ?_,?_⟩
    ·rcases gX.1 hi with rfl | hi
     ·exact Nat.le_of_ble_eq_true h1
     ·exact h3 i hi
    ·refine List.nodup_cons.2 ⟨fun hm => ?_,h4⟩
     have:=fU.1 h2 a hm;simp at this
   ·cases h
  ·cases h
theorem aDp(m:Mem):∀ (k i j:Nat),j<k→(firsts m k i)[j]? = some (bH m (i+j))
 | 0,i,j,h=>by omega
 | k+1,i,j,h=>by
  unfold firsts;cases j with
  | zero=>simp [at?]
  | succ j =>
   have:=aDp m k (i+1) j (by omega)
   rw [List.getElem?_cons_succ,this,show i+1+j=i+(j+1) by omega]
theorem lG(m:Mem):∀ (k i:Nat),(firsts m k i).length=k
 | 0,_=>rfl
 | k+1,i=>by simp [firsts,lG m k]

def lS(k:Nat)(ids:List Nat)(j:Nat):Option Nat:=if j<k then some j else ids[j-k]?
theorem aFq{k:Nat}{ids:List Nat}{i j:Nat}(h:rnI k ids i=some j):lS k ids j=some i:=by
 unfold rnI at h
 split at h
 ·rename_i hb
  cases h;have:i<k:=by simpa [Nat.blt_eq] using hb
  simp [lS,this]
 ·obtain ⟨h1,h2⟩:=uE _ _ _ _ h
  simp [lS,Nat.not_lt.2 h1,h2]
theorem aRa{k:Nat}{ids:List Nat}(hd:distinct k ids=true){j j' i:Nat}(h:lS k ids j=some i)(h':lS k ids j'=some i):j=j':=by
 obtain ⟨h1,h2⟩:=gU hd;unfold lS at h h'
 split at h <;> split at h'
 ·cases h;cases h';rfl
 ·cases h
  have:=h1 _ (Bi h');omega
 ·cases h'
  have:=h1 _ (Bi h);omega
 ·obtain ⟨q1,q2⟩:=Bc.1 h
  obtain ⟨q3,q4⟩:=Bc.1 h';have hp:=List.pairwise_iff_getElem.1 h2
  rcases Nat.lt_trichotomy (j-k) (j'-k) with hl | hl | hl
  ·exact absurd (q2.trans q4.symm) (hp _ _ q1 q3 hl)
  ·omega
  ·exact absurd (q4.trans q2.symm) (hp _ _ q3 q1 hl)

def Cx.rn(C:Cx)(k:Nat)(ids:List Nat):Cx:={ ι:=fun j=>(lS k ids j).bind C.ι,κ:=fun j=>match lS k ids j with | some i=>C.κ i | none=>0,F:=C.F }

theorem zN{f:Nat→Option Nat}:∀ {m m':Mem},mpM f m=some m'→m'.length=m.length∧(∀ (j:Nat) (o':AO),m'[j]? = some (some o')→∃ o,m[j]? = some (some o)∧mpO f o=some o')∧(∀ (j:Nat) (o:AO),m[j]? = some (some o)→∃ o',m'[j]? = some (some o')∧mpO f o=some o')
 | [],m',h=>by cases h;exact ⟨rfl,fun j o h=>by simp at h,fun j o h=>by simp at h⟩
 | none::r,m',h=>by
  unfold mpM at h
  cases hr:mpM f r with
  | none=>rw [hr] at h;cases h
  | some r' =>
   rw [hr] at h;cases h
   obtain ⟨h1,h2,h3⟩:=zN hr;refine ⟨by simp [h1],fun j o hj => ?_,fun j o hj => ?_⟩
   ·cases j with
    | zero=>simp at hj
    | succ j=>exact h2 j o (by simpa using hj)
   ·cases j with
    | zero=>simp at hj
    | succ j=>exact h3 j o (by simpa using hj)
 | some o::r,m',h=>by
  unfold mpM at h
  split at h
  ·rename_i o' C9
   cases hr:mpM f r with
   | none=>rw [hr] at h;cases h
   | some r' =>
    rw [hr] at h;cases h
    obtain ⟨h1,h2,h3⟩:=zN hr;refine ⟨by simp [h1],fun j o hj => ?_,fun j o hj => ?_⟩
    ·cases j with
     | zero=>simp at hj;subst hj;exact ⟨_,rfl,C9⟩
     | succ j=>exact h2 j o (by simpa using hj)
    ·cases j with
     | zero=>simp at hj;subst hj;exact ⟨_,rfl,C9⟩
     | succ j=>exact h3 j o (by simpa using hj)
  ·cases h

theorem bD{f:Nat→Option Nat}{o o':AO}(h:mpO f o=some o'):o'.live=o.live:=by
 cases o <;> simp only [mpO,kI,Option.some.injEq] at h
 ·subst h;rfl
 ·obtain ⟨_,_,rfl⟩:=h;rfl
 ·subst h;rfl
 ·subst h;rfl
 ·subst h;rfl
theorem kC{f:Nat→Option Nat}{o:AO}{ty n:Nat}{cs:List PV}(h:mpO f o=some (.row ty n cs)):o = .row ty n cs:=by
 cases o <;> simp only [mpO,kI,Option.some.injEq] at h
 ·exact h
 ·obtain ⟨_,_,h⟩:=h;cases h
 ·cases h
 ·cases h
 ·cases h
structure aTu (f:Nat→Option Nat) (C C':Cx) (M M':Mem):Prop where
 bk:∀ (i j:Nat) (o':AO),f i=some j→M'[j]? = some (some o')→∃ o,M[i]? = some (some o)∧mpO f o=some o'
 fw:∀ (i j:Nat) (o:AO),f i=some j→M[i]? = some (some o)→∃ o',M'[j]? = some (some o')∧mpO f o=some o'
 at_:∀ i j,f i=some j→C'.ι j=C.ι i∧C'.κ j=C.κ i
 F:∀ b,C.F b→C'.F b

section
variable {f:Nat→Option Nat} {C':Cx} {M':Mem} (hm:aTu f C C' M M')
include hm
set_option linter.unusedSectionVars false in
mutual
theorem rJ:∀ {x y:AV} {u:Value},Rep C M w x u→mpA f x=some y→Rep C' M' w y u
 | .own i,y,u,h,hr=>by
  simp only [mpA,kI] at hr
  obtain ⟨j,hj,rfl⟩:=hr;cases h with
  | own _ u h0 ha h =>
   obtain ⟨o,ho⟩:=ha;obtain ⟨o',C9,_⟩:=hm.fw _ _ _ hj ho;refine .own j u h0 ⟨o',C9⟩ fun ty n cs hx => ?_
   obtain ⟨o2,e2,e3⟩:=hm.bk _ _ _ hj hx;rw [kC e3] at e2
   rw [(hm.at_ _ _ hj).1,(hm.at_ _ _ hj).2];exact h _ _ _ e2
 | .arr i off n,y,u,h,hr=>by
  simp only [mpA,kI] at hr
  obtain ⟨j,hj,rfl⟩:=hr;cases h with
  | arr _ _ _ u h0 ha h =>
   obtain ⟨o,ho⟩:=ha;obtain ⟨o',C9,_⟩:=hm.fw _ _ _ hj ho;refine .arr j off n u h0 ⟨o',C9⟩ fun o3 hx hl => ?_
   obtain ⟨o2,e2,e3⟩:=hm.bk _ _ _ hj hx;rw [(hm.at_ _ _ hj).1];exact h _ e2 (by rw [← bD e3];exact hl)
 | .ptr i off,y,u,h,hr=>by
  simp only [mpA,kI] at hr
  obtain ⟨j,hj,rfl⟩:=hr;cases h with
  | ptr _ _ u h0 ha h hp =>
   obtain ⟨o,ho⟩:=ha;obtain ⟨o',C9,_⟩:=hm.fw _ _ _ hj ho;refine .ptr j off u h0 ⟨o',C9⟩ (fun o3 hx hl => ?_) hp
   obtain ⟨o2,e2,e3⟩:=hm.bk _ _ _ hj hx;rw [(hm.at_ _ _ hj).1];exact h _ e2 (by rw [← bD e3];exact hl)
 | .mp i,y,u,h,hr=>by
  simp only [mpA,kI] at hr
  obtain ⟨j,hj,rfl⟩:=hr;cases h with
  | mp _ u h0 ha h =>
   obtain ⟨o,ho⟩:=ha;obtain ⟨o',C9,_⟩:=hm.fw _ _ _ hj ho;refine .mp j u h0 ⟨o',C9⟩ fun o3 hx hl => ?_
   obtain ⟨o2,e2,e3⟩:=hm.bk _ _ _ hj hx;rw [(hm.at_ _ _ hj).1];exact h _ e2 (by rw [← bD e3];exact hl)
 | .pa i q,y,u,h,hr=>by
  simp only [mpA,kI] at hr
  obtain ⟨j,hj,rfl⟩:=hr;cases h with
  | pa _ _ u h0 ha h =>
   obtain ⟨o,ho⟩:=ha;obtain ⟨o',C9,_⟩:=hm.fw _ _ _ hj ho;refine .pa j q u h0 ⟨o',C9⟩ fun o3 hx hl => ?_
   obtain ⟨o2,e2,e3⟩:=hm.bk _ _ _ hj hx;rw [(hm.at_ _ _ hj).2];exact h _ e2 (by rw [← bD e3];exact hl)
 | .agg l,y,u,h,hr=>by
  simp only [mpA,kI] at hr
  obtain ⟨l',hl,rfl⟩:=hr;cases h with
  | agg _ vs h0 h1 h4 =>
   obtain ⟨q1,q2⟩:=eZ (us:=fun i=>vs.getD i undef) h4 hl
   exact .agg _ _ (fun i hi=>h0 i (by omega)) (by omega) q2
 | .tup l,y,u,h,hr=>by
  simp only [mpA,kI] at hr
  obtain ⟨l',hl,rfl⟩:=hr;cases h with
  | tup _ vs h1 h4 =>
   obtain ⟨q1,q2⟩:=eZ (us:=fun i=>vs.getD i undef) h4 hl
   exact .tup _ _ (by omega) q2
 | .fn g a b,y,u,h,hr=>by
  simp only [mpA] at hr
  split at hr
  ·rename_i a' ha
   simp only [kI] at hr
   obtain ⟨b',hb,rfl⟩:=hr;cases h with
   | fn _ _ _ us vs h1 h4 h5 h6 =>
    obtain ⟨q1,q2⟩:=eZ (us:=fun i=>us.getD i undef) h5 ha
    obtain ⟨r1,r2⟩:=eZ (us:=fun i=>vs.getD i undef) h6 hb
    exact .fn g _ _ us vs (by omega) (by omega) q2 r2
  ·cases hr
 | .p x,y,u,h,hr=>by simp only [mpA] at hr;cases hr;cases h with | p _ _ h=>exact .p _ _ (h.mono hm.F (fun _ _=>rfl))
 | .rp cs o,y,u,h,hr=>by
  simp only [mpA] at hr;cases hr
  cases h with | rp _ _ b o us h1 h2 h3=>exact .rp cs _ b o us (fun i hi=>⟨hm.F _ (h1 i hi).1,(h1 i hi).2⟩) (fun i hi=>(h2 i hi).mono hm.F (fun _ _=>rfl)) h3
 | .yld l,y,u,h,hr=>by simp only [mpA] at hr;cases hr;cases h;exact .yld _
 | .kb b,y,u,h,hr=>by simp only [mpA] at hr;cases hr;cases h;exact .kb _
 | .any,y,u,h,hr=>by simp only [mpA] at hr;cases hr;exact .any _
theorem eZ:∀ {l ys:List AV} {us:Nat→Value},(∀ i (h:i<l.length),Rep C M w l[i] (us i))→mpL f l=some ys→ys.length=l.length∧∀ i (h:i<ys.length),Rep C' M' w ys[i] (us i)
 | [],_,_,_,hr=>by simp only [mpL] at hr;cases hr;exact ⟨rfl,fun i h=>by simp at h⟩
 | x::r,ys,us,h,hr=>by
  simp only [mpL] at hr
  split at hr
  ·rename_i y hy
   simp only [kI] at hr
   obtain ⟨r',Fv,rfl⟩:=hr;obtain ⟨q1,q2⟩:=eZ (us:=fun i=>us (i+1)) (fun i hi=>h (i+1) (by simpa using hi)) Fv
   refine ⟨by simp [q1],fun i hi => ?_⟩
   cases i with
   | zero=>exact rJ (h 0 (by simp)) hy
   | succ i=>exact q2 i (by simpa using hi)
  ·cases hr
end
end

theorem pP{k:Nat}{ids:List Nat}{M':Mem}(hM:aP P C M w)(hd:distinct k ids=true)(Cu:rnM k ids (firsts M k 0++ids.map (at? M))=some M') :
  aP P (C.rn k ids) M' w∧aTu (rnI k ids) C (C.rn k ids) M M'∧∀ (j:Nat) (o':AO),M'[j]? = some (some o')→∃ i o,lS k ids j=some i∧M[i]? = some (some o)∧mpO (rnI k ids) o=some o':=by
 obtain ⟨g1,g2,g3⟩:=zN Cu;have hat:∀ (i j:Nat) (o:AO),lS k ids j=some i→((firsts M k 0++ids.map (at? M))[j]? = some (some o)↔M[i]? = some (some o)):=fun i j o hs=>by
  unfold lS at hs
  split at hs
  ·rename_i hj
   cases hs;rw [aAz (by rw [lG];exact hj),aDp _ _ _ _ hj,fG,Option.some.injEq,aZ]
  ·rename_i hj
   rw [aAy (by rw [lG];omega),lG,eX,hs,Option.map_some,Option.some.injEq]
   exact aZ
 have hsrc:∀ (j:Nat) (o:AO),(firsts M k 0++ids.map (at? M))[j]? = some (some o)→∃ i,lS k ids j=some i:=fun j o hj=>by
  unfold lS
  split
  ·exact ⟨_,rfl⟩
  ·obtain ⟨hl,_⟩:=Bc.1 hj
   rw [lT,lG,eI] at hl
   exact ⟨_,Aq (by omega)⟩
 have h2:∀ (j:Nat) (o':AO),M'[j]? = some (some o')→∃ i o,lS k ids j=some i∧M[i]? = some (some o)∧mpO (rnI k ids) o=some o':=fun j o' hj=>by
  obtain ⟨o,q1,q2⟩:=g2 j o' hj;obtain ⟨i,hi⟩:=hsrc j o q1;exact ⟨i,o,hi,(hat i j o hi).1 q1,q2⟩
 have hi:∀ j i,lS k ids j=some i→(C.rn k ids).ι j=C.ι i∧(C.rn k ids).κ j=C.κ i:=fun j i h=>by simp [Cx.rn,h]
 have hmp:aTu (rnI k ids) C (C.rn k ids) M M':=⟨fun i j o' hf hj=>by
  obtain ⟨i',o,q1,q2,q3⟩:=h2 j o' hj;rw [aFq hf] at q1;cases q1
  exact ⟨o,q2,q3⟩,fun i j o hf ho=>g3 j o ((hat i j o (aFq hf)).2 ho),fun i j hf=>hi j i (aFq hf),fun _ h=>h⟩
 refine ⟨⟨fun j ty n cs h => ?_,fun j ty cs h => ?_,fun j es cl h => ?_,fun j j' o1 o2 b q1 l1 q2 l2 e1 e2 => ?_,fun j o b h hl hb => ?_,hM.Fs,fun j o b h hl hb => ?_⟩,hmp,h2⟩
 ·obtain ⟨i,o,q1,q2,q3⟩:=h2 _ _ h
  rw [kC q3] at q2
  obtain ⟨r1,r2⟩:=hi j i q1;rw [r1,r2];exact hM.row _ _ _ _ q2
 ·obtain ⟨i,o,q1,q2,q3⟩:=h2 _ _ h
  obtain ⟨r1,r2⟩:=hi j i q1;cases o with
  | box Cn l =>
   simp only [mpO,kI] at q3
   obtain ⟨l',Dj,e⟩:=q3;cases e;obtain ⟨b,arr,p0,p1,p2,p3,p4⟩:=hM.box _ _ _ q2;obtain ⟨n1,n2⟩:=eZ hmp (w:=w) (us:=fun j=>arr.getD j undef) p3 Dj
   exact ⟨b,arr,by rw [r1];exact p0,p1,by omega,n2,fun j hj=>p4 j (by omega)⟩
  | row=>simp [mpO] at q3
  | mp=>simp [mpO] at q3
  | pk=>simp [mpO] at q3
  | dead=>simp [mpO] at q3
 ·obtain ⟨i,o,q1,q2,q3⟩:=h2 _ _ h
  obtain ⟨r1,r2⟩:=hi j i q1;cases o with
  | mp B2 Da =>
   simp only [mpO,Option.some.injEq] at q3
   cases q3;obtain ⟨b,arr,p0,p1,p2,p3⟩:=hM.mp _ _ _ q2;exact ⟨b,arr,by rw [r1];exact p0,p1,p2,p3⟩
  | row=>simp [mpO] at q3
  | box=>simp [mpO] at q3
  | pk=>simp [mpO] at q3
  | dead=>simp [mpO] at q3
 ·obtain ⟨i,o,q3,q4,q5⟩:=h2 _ _ q1
  obtain ⟨i',o',q6,q7,q8⟩:=h2 _ _ q2;rw [(hi _ _ q3).1] at e1
  rw [(hi _ _ q6).1] at e2
  have:=hM.inj i i' o o' b q4 (by rw [← bD q5];exact l1) q7 (by rw [← bD q8];exact l2) e1 e2
  subst this;exact aRa hd q3 q6
 ·obtain ⟨i,o',q3,q4,q5⟩:=h2 _ _ h
  rw [(hi _ _ q3).1] at hb
  exact hM.nF i o' b q4 (by rw [← bD q5];exact hl) hb
 ·obtain ⟨i,o',q3,q4,q5⟩:=h2 _ _ h
  rw [(hi _ _ q3).1] at hb
  exact hM.lt i o' b q4 (by rw [← bD q5];exact hl) hb

theorem aMd{k:Nat}{ids:List Nat}{st Ah:St}{a:Act}(hk:M0.length≤k)(hp:pick k ids st=some Ah)(hs:Sim P C0 M0 w0 st a w):Sim P C0 M0 w0 Ah a w:=by
 obtain ⟨C,hS,hM,hF,hD⟩:=hs;unfold pick at hp
 split at hp
 ·rename_i hd
  split at hp
  ·rename_i t ht
   simp only [kI] at hp
   obtain ⟨M',Cu,rfl⟩:=hp;obtain ⟨Fu,hmp,h2⟩:=pP hM hd Cu;obtain ⟨t1,t2⟩:=eZ hmp (w:=w) (us:=fun i=>a.tmps.getD i undef) hS.rep ht
   have hi:∀ j i,lS k ids j=some i→(C.rn k ids).ι j=C.ι i∧(C.rn k ids).κ j=C.κ i:=fun j i h=>by simp [Cx.rn,h]
   have small:∀ (i:Nat) (o:AO),M0[i]? = some (some o)→lS k ids i=some i∧rnI k ids i=some i:=fun i o h=>by
    obtain ⟨hl,_⟩:=Bc.1 h;have hik:i<k:=by omega
    have hb:Nat.blt i k=true:=by rw [Nat.blt_eq];exact hik
    exact ⟨by simp [lS,hik],by simp only [rnI,hb]⟩
   refine ⟨C.rn k ids,⟨by rw [hS.size];exact t1.symm,t2⟩,Fu,
    ⟨hF.os,hF.tape,hF.out,hF.size,hF.keep,fun i o h => ?_,fun i o h ty n cs hx => ?_,fun i o h o' hx hl => ?_,fun j o b h hl hb => ?_,hF.F1,hF.F2⟩,hD.1,fun p hp => ?_,?_⟩
   ·obtain ⟨⟨o',q1⟩,q2,q3⟩:=hF.ids i o h
    obtain ⟨o2,q4,_⟩:=hmp.fw i i o' (small i o h).2 q1;obtain ⟨r1,r2⟩:=hi i i (small i o h).1;exact ⟨⟨o2,q4⟩,r1.trans q2,r2.trans q3⟩
   ·obtain ⟨i',o',q3,q4,q5⟩:=h2 _ _ hx
    rw [(small i o h).1] at q3;cases q3
    rw [kC q5] at q4
    exact hF.row _ _ h _ _ _ q4
   ·obtain ⟨i',o2,q3,q4,q5⟩:=h2 _ _ hx
    rw [(small i o h).1] at q3;cases q3
    exact hF.liv _ _ h _ q4 (by rw [← bD q5];exact hl)
   ·obtain ⟨i,o',q3,q4,q5⟩:=h2 _ _ h
    rw [(hi _ _ q3).1] at hb
    exact hF.new i o' b q4 (by rw [← bD q5];exact hl) hb
   ·obtain ⟨r1,r2,r3,r4,r5⟩:=hD.2.1 p hp
    refine ⟨r1,r2,r3,r4,fun j o h hl hb => ?_⟩
    obtain ⟨i,o',q3,q4,q5⟩:=h2 _ _ h;rw [(hi _ _ q3).1] at hb
    exact r5 i o' q4 (by rw [← bD q5];exact hl) hb
   ·have lv:∀ (j:Nat) (o:AO),M'[j]? = some (some o)→o.live=true→∃ i o',lS k ids j=some i∧st.m[i]? = some (some o')∧o'.live=true:=fun j o h hl=>by
     obtain ⟨i,o',q3,q4,q5⟩:=h2 _ _ h;exact ⟨i,o',q3,q4,by rw [← bD q5];exact hl⟩
    have pk:∀ (j to ti sz:Nat) (L:List (Nat × List PV)),M'[j]? = some (some (.pk to ti sz L))→∃ i,lS k ids j=some i∧st.m[i]? = some (some (.pk to ti sz L)):=fun j to ti sz L h=>by
     obtain ⟨i,o',q3,q4,q5⟩:=h2 _ _ h;refine ⟨i,q3,?_⟩;cases o' with
     | pk=>simp only [mpO,Option.some.injEq] at q5;rw [← q5];exact q4
     | box=>simp [mpO] at q5
     | _=>simp [mpO] at q5
    refine ⟨fun j to ti sz L h => ?_,fun j j' to ti sz N9 Oa Ob L L' h h' hne b hb Al => ?_⟩
    ·obtain ⟨i,q3,q4⟩:=pk _ _ _ _ _ h
     obtain ⟨p,p0,p1⟩:=hD.2.2.1 _ _ _ _ _ q4;obtain ⟨r1,r2⟩:=hi j i q3;refine ⟨p.move (r1.trans p.io) r2 (fun _ h=>h) (fun _ _=>rfl) fun b hb=>⟨rfl,(p.own b hb).1,fun j2 o2 ho hl => ?_⟩,fun o ho => ?_,by rw [r2];exact p1⟩
     ·obtain ⟨i2,o3,s1,s2,s3⟩:=lv j2 o2 ho hl
      rw [(hi _ _ s1).1];exact (p.own b hb).2 i2 o3 s2 s3
     ·have:=(small j o ho).1
      rw [this] at q3;cases q3
      exact p0 o ho
    ·obtain ⟨i,q3,q4⟩:=pk _ _ _ _ _ h
     obtain ⟨i',Jg,Ro⟩:=pk _ _ _ _ _ h';rw [(hi j i q3).2] at hb
     rw [(hi j' i' Jg).2] at Al
     refine hD.2.2.2 _ _ _ _ _ _ _ _ _ _ q4 Ro (fun e=>hne ?_) b hb Al
     subst e;exact aRa hd q3 Jg
  ·cases hp
 ·cases hp

def aDq:List Nat→St→Option St
 | [],st=>some st
 | i::r,st=>match Oc i st with
  | some Ah=>aDq r Ah
  | none=>match fzP i st with
   | some Ah=>aDq r Ah
   | none=>match fzM i st with
    | some Ah=>aDq r Ah
    | none=>none
def nlC(id off ty:Nat)(st:St):Option St:=match st.m[id]? with
 | some (some (.box bty cs))=>match cs[off]? with
  | some (.p (.v (.slice none 0 0)))=>match Nat.beq ty 99999 with
   | true=>some ⟨st.t,aU st.m id (some (.box bty (cs.set off (.p (.sl 0 [])))))⟩
   | false=>match eL st.m st.m.length with
    | true=>some ⟨st.t,aU (aU st.m st.m.length (some (.row ty 0 []))) id (some (.box bty (cs.set off (.own st.m.length))))⟩
    | false=>none
  | some (.kb b)=>some ⟨st.t,aU st.m id (some (.box bty (cs.set off (.p (.v (.bool b))))))⟩
  | _=>none
 | _=>none
def nlS(i ty:Nat)(st:St):Option St:=match st.t[i]? with
 | some (.p (.v (.slice none 0 0)))=>match Nat.beq ty 99999 with
  | true=>some ⟨st.t.set i (.p (.sl 0 [])),st.m⟩
  | false=>match eL st.m st.m.length with
   | true=>some ⟨st.t.set i (.own st.m.length),aU st.m st.m.length (some (.row ty 0 []))⟩
   | false=>none
 | some (.kb b)=>some ⟨st.t.set i (.p (.v (.bool b))),st.m⟩
 | _=>none
def Od(i ty:Nat)(st:St):Option St:=match Nat.ble 100000 i with
 | true=>nlC ((i-100000) / 1000) ((i-100000) % 1000) ty st
 | false=>match Nat.ble 1000000000 ty with
  | true=>nlP i ((ty-1000000000) / 1000000) ((ty-1000000000) / 100 % 10000) ((ty-1000000000) % 100) st
  | false=>nlS i ty st
def aRb:List (Nat × Nat)→St→Option St
 | [],st=>some st
 | (i,ty)::r,st=>match Od i ty st with
  | some Ah=>aRb r Ah
  | none=>none
def gh(k:Nat)(g:Gh)(st:St):Option St:=match aDq g.fz st with
 | some st1=>match aRb g.nl st1 with
  | some st2=>pick k g.ids ⟨forget g.fg st2.t,st2.m⟩
  | none=>none
 | none=>none
theorem zO(hM:aP P C M w){id bty off:Nat}{cs:List AV}{x:AV}(hb:M[id]? = some (some (.box bty cs)))(hoff:off<cs.length)
  (hx:∀ u,Rep C M w cs[off] u→Rep C (aU M id (some (.box bty (cs.set off x)))) w x u):aP P C (aU M id (some (.box bty (cs.set off x)))) w∧Fr C M w C (aU M id (some (.box bty (cs.set off x)))) w:=by
 have hold:∀ (i:Nat) (o:AO),i≠id→(aU M id (some (.box bty (cs.set off x))))[i]? = some (some o)→M[i]? = some (some o):=fun i o h=>(aO M id i _ o (fun e=>h e.symm)).1
 have hnew:∀ (o:AO),(aU M id (some (.box bty (cs.set off x))))[id]? = some (some o)→o = .box bty (cs.set off x):=fun o h=>by rw [aT] at h;cases h;rfl
 have hliv:∀ (i:Nat) (o:AO),(aU M id (some (.box bty (cs.set off x))))[i]? = some (some o)→o.live=true→∃ o1,M[i]? = some (some o1)∧o1.live=true:=fun i o h hl=>by
  by_cases e:i=id
  ·subst e;exact ⟨_,hb,rfl⟩
  ·exact ⟨o,hold i o e h,hl⟩
 have f:Fr C M w C (aU M id (some (.box bty (cs.set off x)))) w:=by
  refine ⟨rfl,rfl,rfl,dH _,fun _ _ _=>rfl,fun i o h=>⟨?_,rfl,rfl⟩,fun i o h ty n Oe hm => ?_,fun i o h o' h' hl => ?_,fun i o b h hl hbb => ?_,fun b h=>h,fun b h => .inl h⟩
  ·by_cases e:i=id
   ·subst e;exact ⟨_,aT ..⟩
   ·exact ⟨o,(aO M id i _ o (fun e'=>e e'.symm)).2 h⟩
  ·by_cases e:i=id
   ·subst e;cases hnew _ hm
   ·exact ⟨Oe,hold i _ e hm⟩
  ·obtain ⟨o1,q1,q2⟩:=hliv i o' h' hl
   rw [h] at q1;cases q1;exact q2
  ·obtain ⟨o1,q1,q2⟩:=hliv i o h hl
   exact .inr ⟨i,o1,q1,q2,hbb⟩
 have hL:=hM.le f;refine ⟨⟨fun i ty n Oe hm => ?_,fun i ty Oe hm => ?_,fun i es cl hm => ?_,fun i i' o1 o2 b hm hl Cu Dj h1 h2 => ?_,fun i o b hm hl hbb => ?_,hM.Fs,fun i o b hm hl hbb => ?_⟩,f⟩
 ·by_cases e:i=id
  ·subst e;cases hnew _ hm
  ·exact hM.row _ _ _ _ (hold i _ e hm)
 ·by_cases e:i=id
  ·subst e
   cases hnew _ hm;obtain ⟨b,arr,q0,q1,q2,q3,q4⟩:=hM.box _ _ _ hb;refine ⟨b,arr,q0,q1,by simpa using q2,fun j hj => ?_,fun j hj=>q4 j (by simpa using hj)⟩
   rw [wH]
   split
   ·rename_i e2;subst e2;exact hx _ (q3 _ hoff)
   ·exact (q3 j (by simpa using hj)).mono hL
  ·obtain ⟨b,arr,q0,q1,q2,q3,q4⟩:=hM.box _ _ _ (hold i _ e hm)
   exact ⟨b,arr,q0,q1,q2,fun j hj=>(q3 j hj).mono hL,q4⟩
 ·by_cases e:i=id
  ·subst e;cases hnew _ hm
  ·obtain ⟨b,arr,q0,q1,q2,q3⟩:=hM.mp _ _ _ (hold i _ e hm)
   refine ⟨b,arr,q0,q1,q2,fun j hj => ?_⟩
   obtain ⟨en,r1,r2,r3,r4⟩:=q3 j hj;exact ⟨en,r1,r2,r3,r4.mono hL.F hL.fz⟩
 ·obtain ⟨x1,y1,z1⟩:=hliv i o1 hm hl
  obtain ⟨x2,y2,z2⟩:=hliv i' o2 Cu Dj;exact hM.inj _ _ _ _ _ y1 z1 y2 z2 h1 h2
 ·obtain ⟨x1,y1,z1⟩:=hliv i o hm hl
  exact hM.nF _ _ _ y1 z1 hbb
 ·obtain ⟨x1,y1,z1⟩:=hliv i o hm hl
  exact hM.lt _ _ _ y1 z1 hbb
theorem aTv{id off ty:Nat}{st Ah:St}{a:Act}(h:nlC id off ty st=some Ah)(hs:Sim P C0 M0 w0 st a w):Sim P C0 M0 w0 Ah a w:=by
 obtain ⟨C,hS,hM,hF,hD⟩:=hs;unfold nlC at h
 split at h
 ·rename_i bty cs hi
  split at h
  ·rename_i hc
   split at h
   ·cases h
    obtain ⟨hoff,hcv⟩:=Bc.1 hc;obtain ⟨Hc,f2⟩:=zO hM hi hoff (x := .p (.sl 0 [])) (fun u hu=>by
     rw [hcv] at hu
     cases hu with
     | p _ _ h =>
      cases h;exact .p _ _ (.sl 0 [] none 0 (fun _=>undef) (dH _) (Nat.zero_le _) (fun i hi=>by simp at hi) (fun i hi=>by simp at hi) (fun i hi=>by simp at hi)))
    exact ⟨C,hS.le (hM.le f2),Hc,hF.trans f2,hD.fr hM (fJ rfl) f2⟩
   ·split at h
    ·rename_i hb
     cases h;have hf:=cC hb;have f:=uT (C:=C) (w:=w) (ty:=ty) hf;have Bp:=uU (ty:=ty) hM hf;have hne:id≠st.m.length:=fun e=>hf _ (e ▸ hi)
     have Ih:(aU st.m st.m.length (some (.row ty 0 [])))[id]? = some (some (.box bty cs)):=(aO st.m st.m.length id _ _ (fun e=>hne e.symm)).2 hi
     obtain ⟨hoff,hcv⟩:=Bc.1 hc;have hnw:(aU (aU st.m st.m.length (some (.row ty 0 []))) id (some (.box bty (cs.set off (.own st.m.length)))))[st.m.length]? = some (some (.row ty 0 [])):=(aO _ id st.m.length _ _ hne).2 (aT ..);obtain ⟨Hc,f2⟩:=zO Bp Ih hoff (x := .own st.m.length) (fun u hu=>by
      rw [hcv] at hu
      cases hu with
      | p _ _ h =>
       cases h;exact .own _ _ rfl ⟨_,hnw⟩ fun ty n cs h=>by rw [hnw] at h;cases h;exact .inl ⟨rfl,by simp [Cx.nil],rfl⟩)
     exact ⟨C.nil st.m.length,(hS.le (hM.le f)).le (Bp.le f2),Hc,(hF.trans f).trans f2,hD.fr hM ((fJ rfl).trans (fJ rfl)) (f.trans f2)⟩
    ·cases h
  ·rename_i b hc
   cases h;obtain ⟨hoff,hcv⟩:=Bc.1 hc;obtain ⟨Hc,f2⟩:=zO hM hi hoff (x := .p (.v (.bool b))) (fun u hu=>by
    rw [hcv] at hu
    cases hu;exact .p _ _ (.v _))
   exact ⟨C,hS.le (hM.le f2),Hc,hF.trans f2,hD.fr hM (fJ rfl) f2⟩
  ·cases h
 ·cases h
theorem aTw{i ty:Nat}{st Ah:St}{a:Act}(h:nlS i ty st=some Ah)(hs:Sim P C0 M0 w0 st a w):Sim P C0 M0 w0 Ah a w:=by
 obtain ⟨C,hS,hM,hF,hD⟩:=hs;unfold nlS at h
 split at h
 ·rename_i hi
  split at h
  ·cases h
   refine ⟨C,⟨by simpa using hS.size,fun j hj => ?_⟩,hM,hF,hD⟩
   simp only [tM] at hj
   rw [wH]
   split
   ·rename_i e
    subst e;have hr:=hS.at hi
    generalize a.tmps.getD i undef=u at hr ⊢
    cases hr with
    | p _ _ h =>
     cases h;exact .p _ _ (.sl 0 [] none 0 (fun _=>undef) (dH _) (Nat.zero_le _) (fun i hi=>by simp at hi) (fun i hi=>by simp at hi) (fun i hi=>by simp at hi))
   ·exact hS.rep j hj
  ·split at h
   ·rename_i hb
    cases h;have hf:=cC hb;have f:=uT (C:=C) (w:=w) (ty:=ty) hf;have hL:=hM.le f;refine ⟨C.nil st.m.length,⟨by simpa using hS.size,fun j hj => ?_⟩,uU hM hf,hF.trans f,hD.fr hM (fJ rfl) f⟩
    simp only [tM] at hj
    rw [wH]
    split
    ·rename_i e
     subst e;have hr:=hS.at hi
     generalize a.tmps.getD i undef=u at hr ⊢
     cases hr with
     | p _ _ h =>
      cases h;exact .own _ _ rfl ⟨_,aT ..⟩ fun ty n cs h=>by rw [aT] at h;cases h;exact .inl ⟨rfl,by simp [Cx.nil],rfl⟩
    ·exact (hS.rep j hj).mono hL
   ·cases h
 ·rename_i b hi
  cases h;refine ⟨C,⟨by simpa using hS.size,fun j hj => ?_⟩,hM,hF,hD⟩
  simp only [tM] at hj
  rw [wH]
  split
  ·rename_i e
   subst e;have hr:=hS.at hi
   generalize a.tmps.getD i undef=u at hr ⊢
   cases hr;exact .p _ _ (.v _)
  ·exact hS.rep j hj
 ·cases h
theorem aTx{i ty:Nat}{st Ah:St}{a:Act}(h:Od i ty st=some Ah)(hs:Sim P C0 M0 w0 st a w):Sim P C0 M0 w0 Ah a w:=by
 unfold Od at h
 split at h
 ·exact aTv h hs
 ·split at h
  ·exact aUc h hs
  ·exact aTw h hs
theorem xJ:∀ (l:List (Nat × Nat)) {st Ah:St} {a:Act},aRb l st=some Ah→Sim P C0 M0 w0 st a w→Sim P C0 M0 w0 Ah a w
 | [],st,Ah,a,h,hs=>by cases h;exact hs
 | (i,ty)::r,st,Ah,a,h,hs=>by
  unfold aRb at h
  split at h
  ·rename_i h1
   exact xJ r h (aTx h1 hs)
  ·cases h
theorem lW:∀ (l:List Nat) {st Ah:St} {a:Act},aDq l st=some Ah→Sim P C0 M0 w0 st a w→Sim P C0 M0 w0 Ah a w
 | [],st,Ah,a,h,hs=>by cases h;exact hs
 | i::r,st,Ah,a,h,hs=>by
  unfold aDq at h
  split at h
  ·rename_i h1
   exact lW r h (aUd h1 hs)
  ·split at h
   ·rename_i h1
    exact lW r h (aUb h1 hs)
   ·split at h
    ·rename_i h1
     exact lW r h (aUa h1 hs)
    ·cases h
theorem dY{k:Nat}{g:Gh}{st Ah:St}{a:Act}(hk:M0.length≤k)(h:gh k g st=some Ah)(hs:Sim P C0 M0 w0 st a w):Sim P C0 M0 w0 Ah a w:=by
 unfold gh at h
 split at h
 ·rename_i h1
  split at h
  ·rename_i h2
   exact aMd hk h (aFr g.fg (xJ _ h2 (lW _ h1 hs)))
  ·cases h
 ·cases h
end
section
variable {P:Program} {T:TT} {E:Env} {C C0:Cx} {M M0:Mem} {w w0:World}

theorem bBw(hM:aP P C M w){w1:World}(hw:w1.heap=w.heap):aP P C M w1∧Le C C M M w w1:=by
 have hL:Le C C M M w w1:=⟨fun _ o h=>⟨o,h⟩,fun _ _ _ _ _ cs h=>⟨cs,h⟩,fun _ o h o' h' hl=>by rw [h] at h';cases h';exact ⟨hl,rfl,rfl⟩,fun _ h=>h,fun _ _=>by rw [hw]⟩
 have hsz:w1.heap.size=w.heap.size:=by rw [hw]
 refine ⟨⟨fun i Cn n cs hm => ?_,fun i Cn cs hm => ?_,fun i es cl hm => ?_,hM.inj,hM.nF,fun b hb=>by rw [hsz];exact hM.Fs b hb,fun i x b hm hl hb=>by rw [hsz];exact hM.lt i x b hm hl hb⟩,hL⟩
 ·rcases hM.row _ _ _ _ hm with h4 | ⟨b,arr,inf,q0,q1,q2,q3,q4,q5,q6,q7,q8⟩
  ·exact .inl h4
  ·exact .inr ⟨b,arr,inf,q0,by rw [hw];exact q1,q2,q3,q4,q5,q6,fun j hj=>(q7 j hj).mono hL.F hL.fz,q8⟩
 ·obtain ⟨b,arr,q0,q1,q2,q3,q4⟩:=hM.box _ _ _ hm
  exact ⟨b,arr,q0,by rw [hw];exact q1,q2,fun j hj=>(q3 j hj).mono hL,q4⟩
 ·obtain ⟨b,arr,q0,q1,q2,q3⟩:=hM.mp _ _ _ hm
  refine ⟨b,arr,q0,by rw [hw];exact q1,q2,fun j hj => ?_⟩
  obtain ⟨en,r1,r2,r3,r4⟩:=q3 j hj;exact ⟨en,r1,r2,r3,r4.mono hL.F hL.fz⟩
theorem aQz{w1:World}(hw:w1.heap=w.heap)(ho:w1.os=w.os)(ht:w1.tape=w.tape)(hu:w1.output=w.output):Fr C M w C M w1 :=
 ⟨ho,ht,hu,by rw [hw];exact dH _,fun b _ _=>by rw [hw],fun _ x h=>⟨⟨x,h⟩,rfl,rfl⟩,fun _ _ _ _ _ cs h=>⟨cs,h⟩,fun _ o h o' h' hl=>by rw [h] at h';cases h';exact hl,fun i x _ h hl hb => .inr ⟨i,x,h,hl,hb⟩,fun _ h=>h,fun _ h => .inl h⟩

theorem Sim.drawn{st:St}{a:Act}(h:Sim P C0 M0 w0 st a w)(k:Nat):Sim P C0 M0 w0 st a { w with drawn:=k }:=by
 obtain ⟨C,hS,hM,hF,hD⟩:=h;obtain ⟨m,l⟩:=bBw hM (w1:={ w with drawn:=k }) rfl
 exact ⟨C,hS.le l,m,hF.trans (aQz rfl rfl rfl rfl),hD.fr hM .refl (aQz rfl rfl rfl rfl)⟩

def bHc(ops:Array Oper)(k:Nat)(o:Oper):List Oper→Bool
 | []=>true
 | y::r=>(o.apart ops y || y.after.toList.any fun e=>Region.binds .any e && e.on == k) && bHc ops k o r
def bHd(ops:Array Oper):Nat→List Oper→Bool
 | _,[]=>true
 | k,o::r=>(o.after.toList.all fun e => !Region.binds .any e || Nat.blt e.on k) && bHc ops k o r && bHd ops (k+1) r
def bNd(ops:Array Oper):Bool:=Region.noSelect ops && bHd ops 0 ops.toList
theorem aDm{ops:Array Oper}{k:Nat}{o:Oper}:∀ {r:List Oper},bHc ops k o r=true→∀ y∈r,(y.after.any fun e=>Region.binds .any e && e.on == k)=true∨o.apart ops y=true
 | [],_,y,hy=>by cases hy
 | z::r,h,y,hy=>by
  unfold bHc at h
  rw [Bl,aKf] at h
  rcases gX.1 hy with rfl | hy
  ·rcases h.1 with h1 | h1
   ·exact .inr h1
   ·rw [Array.any_toList] at h1;exact .inl h1
  ·exact aDm h.2 y hy
theorem aDn{ops:Array Oper}:∀ (r:List Oper) (k:Nat) (listed:Array Bool),ops.toList.drop k=r→k+r.length=ops.size→listed.size=ops.size→(∀ j,j<ops.size→listed[j]? = some (decide (j<k))) →
  bHd ops k r=true→Region.lexFrom .any ops r.length k listed=true
 | [],k,listed,hd,hk,hz,hl,h=>by
  show (Region.ready .any ops listed).isEmpty=true;unfold Region.ready;rw [List.isEmpty_iff,List.filter_eq_nil_iff];intro i hi;have hi:=wJ.1 hi;have h1:listed.getD i true=true:=by
   rw [Bb,hl i hi];have:k=ops.size:=by simpa using hk
   simp;omega
  rw [h1];simp
 | o::r,k,listed,hd,hk,hz,hl,h=>by
  unfold bHd at h
  rw [Bl,Bl] at h
  obtain ⟨⟨h1,h2⟩,h3⟩:=h;rw [tK] at hk
  have hko:ops[k]? = some o:=by
   have:(ops.toList.drop k)[0]? = some o:=by rw [hd];rfl
   rw [List.getElem?_drop] at this
   simpa using this
  have hdr:ops.toList.drop (k+1)=r:=by
   have:=congrArg List.tail hd;rw [List.tail_drop] at this
   exact this
  have hlk:listed.getD k true=false:=by
   rw [Bb,hl k (by omega)];simp
  show ((Region.ready .any ops listed).contains k && Region.free .any ops listed k && Region.lexFrom .any ops r.length (k+1) (listed.setIfInBounds k true))=true;rw [Bl,Bl];refine ⟨⟨?_,?_⟩,?_⟩
  ·rw [List.contains_iff_mem]
   unfold Region.ready;rw [wI];refine ⟨wJ.2 (by omega),?_⟩
   rw [hlk,hko];show (!false && o.after.all fun e => !Region.binds .any e || listed.getD e.on false)=true
   rw [Bool.not_false,hZ,← Array.all_toList,fU];intro e he;have:=fU.1 h1 e he;rw [aKf] at this ⊢
   rcases this with q | q
   ·exact .inl q
   ·have q:e.on<k:=by simpa using q
    refine .inr ?_;rw [Bb,hl e.on (by omega)]
    simp [q]
  ·unfold Region.free
   rw [hko];show ((List.range ops.size).all _)=true;rw [fU];intro j hj;have hj:=wJ.1 hj
   rcases Nat.lt_trichotomy j k with q | q | q
   ·have:listed.getD j true=true:=by rw [Bb,hl j hj];simp [q]
    rw [this];simp
   ·subst q;simp
   ·obtain ⟨y,hy⟩:∃ y,ops[j]? = some y:=⟨_,pL hj⟩
    rw [hy];have hm:y∈r:=by
     rw [← hdr];have:(ops.toList.drop (k+1))[j-(k+1)]? = some y:=by
      rw [List.getElem?_drop,show k+1+(j-(k+1))=j by omega]
      simpa using hy
     exact Bi this
    have:=aDm h2 y hm;show (j == k || listed.getD j true || ((y.after.any fun e=>Region.binds .any e && e.on == k) || o.apart ops y))=true
    rw [aKf,aKf (_) (o.apart ops y)];exact .inr this
  ·refine aDn r (k+1) _ hdr (by omega) (by rw [Array.size_setIfInBounds];exact hz) (fun j hj => ?_) h3
   rw [Array.getElem?_setIfInBounds]
   by_cases q:k=j
   ·subst q
    rw [if_pos rfl,if_pos (by omega)];simp
   ·rw [if_neg q,hl j hj]
    congr 1
    rw [decide_eq_decide];omega
theorem vX{ops:Array Oper}(h:bNd ops=true):Region.lexB .any ops=true:=by
 unfold bNd at h
 rw [Bl] at h
 unfold Region.lexB;rw [Bl];refine ⟨h.1,?_⟩;have:=aDn ops.toList 0 (Array.replicate ops.size false) rfl (by simp) (by simp) (fun j hj=>by simp [hj]) h.2
 simpa using this
def aIo(P:Program)(T:TT)(E:Env)(ops:Array Oper)(draw:Bool)(st:St):Ask St:=match draw with
 | false=>aUu P T E ops.toList ops.toList st
 | true=>do
  lift (if bNd ops then some () else none)
  let r ← aMf P T E ops.toList ops.toList st.m.length st
  lift (if aFt ops 0 r.1 then some () else none)
  pure r.2

def Ex.toExit:Ex→Exit
 | .normal => .normal
 | .ret => .ret
 | .exit id => .exit id

def aDo(body:St→Ask (Ex × St)):Nat→St→Ask (Ex × St)
 | 0,_=>fail
 | n+1,st=>do
  let r ← body st
  match r.1 with
  | .normal=>aDo body n r.2
  | e=>pure (e,r.2)

def bHe:Op→Bool
 | .makeMap _ _=>true
 | .lookup _ _ _ _=>true
 | .mapUpdate _ _ _ _=>true
 | _=>false
def nrf:Code→Bool
 | .region _ ops _=>ops.toList.all fun o => !bHe o.op
 | .seq a b=>nrf a && nrf b
 | .cond _ a b=>nrf a && nrf b
 | .block _ b=>nrf b
 | .loop b=>nrf b
 | .scope b=>nrf b
 | .rangeFunc _ _ _ _=>false
 | _=>true
def kM(ro:Option Nat)(c:Code):Prop:=ro=none∨nrf c=true
section
variable {ro:Option Nat} {a b:Code} {x:Operand} {id:Nat}
theorem kM.seq1(h:kM ro (.seq a b)):kM ro a:=h.imp (fun h=>h) fun h=>by unfold nrf at h;rw [Bl] at h;exact h.1
theorem kM.seq2(h:kM ro (.seq a b)):kM ro b:=h.imp (fun h=>h) fun h=>by unfold nrf at h;rw [Bl] at h;exact h.2
theorem kM.cond1(h:kM ro (.cond x a b)):kM ro a:=h.imp (fun h=>h) fun h=>by unfold nrf at h;rw [Bl] at h;exact h.1
theorem kM.cond2(h:kM ro (.cond x a b)):kM ro b:=h.imp (fun h=>h) fun h=>by unfold nrf at h;rw [Bl] at h;exact h.2
theorem kM.block(h:kM ro (.block id b)):kM ro b:=h
theorem kM.loop(h:kM ro (.loop b)):kM ro b:=h
theorem kM.scope(h:kM ro (.scope b)):kM ro b:=h
end

def aC(P:Program)(k:Nat)(c:Code)(st:St)(e:Ex)(Ah:St):Prop:=∀ (C0:Cx) (M0:Mem) (w0:World) (a:Act) (w:World),M0.length≤k→Sim P C0 M0 w0 st a w→∀ (ro:Option Nat),kM ro c→∀ (n:Nat),c.wpIn (Fen ro) n P (fun e' a' w'=>e'=e.toExit∧Sim P C0 M0 w0 Ah a' w') a w

def aCq(P:Program)(k:Nat)(c:Code)(m:St→Ask (Ex × St))(st:St):Ask (Ex × St):=fun s=>match s.auto with
 | true=>m st s
 | false=>match s.o with
  | .k 0 g e Ah::r=>match gh k g st with
   | some st1=>some ((e,Ah),{ s with o:=r,obs:=aC P k c st1 e Ah::s.obs })
   | none=>none
  | .k (n+1) g e Ah::r=>m st { s with o := .k n g e Ah::r }
  | .g 0 g::r=>match gh k g st with
   | some st1=>m st1 { s with o:=r }
   | none=>none
  | .g (n+1) g::r=>m st { s with o := .g n g::r }
  | _=>m st s
def pO{α:Type}(m:Ask α):Ask α:=fun s=>match s.auto with
 | true=>m s
 | false=>none

def yF(P:Program)(T:TT)(E:Env)(k fuel:Nat):Code→St→Ask (Ex × St)
 | .skip,st=>pure (.normal,st)
 | .region id ops d,st=>aCq P k (.region id ops d) (fun st=>do let Ah ← aIo P T E ops d st;pure (.normal,Ah)) st
 | .seq a b,st=>aCq P k (.seq a b) (fun st=>do
  let r ← yF P T E k fuel a st
  match r.1 with
  | .normal=>yF P T E k fuel b r.2
  | e=>pure (e,r.2)) st
 | .cond c a b,st=>aCq P k (.cond c a b) (fun st=>do
  let x ← lift (ev st c)
  let d ← aNi x
  match d with
  | true=>yF P T E k fuel a st
  | false=>yF P T E k fuel b st) st
 | .block id b,st=>aCq P k (.block id b) (fun st=>do
  let r ← yF P T E k fuel b st
  match r.1 with
  | .exit i=>match Nat.beq i id with
   | true=>pure (.normal,r.2)
   | false=>pure (.exit i,r.2)
  | e=>pure (e,r.2)) st
 | .loop b,st=>aCq P k (.loop b) (fun st=>pO (aDo (fun st=>yF P T E k fuel b st) fuel st)) st
 | .exit id,st=>pure (.exit id,st)
 | .label _,st=>pure (.normal,st)
 | .scope b,st=>yF P T E k fuel b st
 | .ret,st=>pure (.ret,st)
 | c,st=>aCq P k c (fun _=>fail) st

theorem aC.pre{k:Nat}{c:Code}{st st1 Ah:St}{e:Ex}{g:Gh}(hg:gh k g st=some st1)(h:aC P k c st1 e Ah):aC P k c st e Ah:=fun C0 M0 w0 a w hk hs ro hro n=>h C0 M0 w0 a w hk (dY hk hg hs) ro hro n
theorem aC.post{k:Nat}{c:Code}{st st1 Ah:St}{e:Ex}{g:Gh}(hg:gh k g st1=some Ah)(h:aC P k c st e st1):aC P k c st e Ah:=fun C0 M0 w0 a w hk hs ro hro n=>wpIn_mono (h C0 M0 w0 a w hk hs ro hro n) (fun _ _ _ hq=>⟨hq.1,dY hk hg hq.2⟩)
theorem jL{k:Nat}{c:Code}{m:St→Ask (Ex × St)}(hm:∀ {st Ah:St} {e:Ex} {s s':AS},m st s=some ((e,Ah),s')→aX s'→aC P k c st e Ah){st Ah:St}{e:Ex}{s s':AS}(h:aCq P k c m st s=some ((e,Ah),s'))(g:aX s'):aC P k c st e Ah:=by
 unfold aCq at h
 cases ha:s.auto with
 | true=>rw [ha] at h;exact hm h g
 | false =>
  rw [ha] at h
  dsimp only at h
  split at h
  ·split at h
   ·rename_i hg
    cases h;exact (g.tail.1).pre hg
   ·cases h
  ·exact hm h g
  ·split at h
   ·rename_i hg
    exact (hm h g).pre hg
   ·cases h
  ·exact hm h g
  ·exact hm h g
theorem lB{k:Nat}{c:Code}{m:St→Ask (Ex × St)}(hm:∀ st,bP (m st))(st:St):bP (aCq P k c m st):=fun s r s' h p hp=>by
 unfold aCq at h
 cases ha:s.auto with
 | true=>rw [ha] at h;exact hm _ _ _ _ h p hp
 | false =>
  rw [ha] at h
  dsimp only at h
  split at h
  ·split at h
   ·cases h;exact Cj _ hp
   ·cases h
  ·exact hm _ _ _ _ h p hp
  ·split at h
   ·exact hm _ _ _ _ h p hp
   ·cases h
  ·exact hm _ _ _ _ h p hp
  ·exact hm _ _ _ _ h p hp
theorem aTt{α:Type}{m:Ask α}(hm:bP m):bP (pO m):=fun s r s' h p hp=>by
 unfold pO at h
 split at h
 ·exact hm _ _ _ h p hp
 ·cases h
theorem bBx{α:Type}{m:Ask α}{s s':AS}{r:α}(h:pO m s=some (r,s')):m s=some (r,s'):=by
 unfold pO at h
 split at h
 ·exact h
 ·cases h

theorem aMb(hT:∀ t i,T t=some i→bY P t=some i)(hE:kS P E)(hm:P.follows .mixedOrders=true){id:Nat}{ops:Array Oper}{d:Bool}{st Ah:St}{s s':AS}(h:aIo P T E ops d st s=some (Ah,s'))(g:aX s'){k:Nat}:aC P k (.region id ops d) st .normal Ah:=by
 intro C0 M0 w0 a w _ hs ro hro n;cases d with
 | false =>
  refine wpIn_region ?_;have:=sY hT hE ops.toList 0 (fun j=>by simp) h g C0 M0 w0 a w hs ro n (fun e' a' w'=>e'=Ex.normal.toExit∧Sim P C0 M0 w0 Ah a' w') (fun a' w' h'=>⟨rfl,h'⟩)
  simpa using this
 | true =>
  obtain ⟨_,s1,h1,k1⟩:=aD h;obtain ⟨e1,rfl⟩:=aE h1;obtain ⟨r,s2,h2,k2⟩:=aD k1;obtain ⟨_,s3,h3,k3⟩:=aD k2;obtain ⟨e3,rfl⟩:=aE h3;obtain ⟨rfl,rfl⟩:=aI k3;obtain ⟨hB,_⟩:=bE e1;obtain ⟨hA,_⟩:=bE e3;obtain ⟨os,hfts,hlex⟩:=pR ops.toList _ (fts:=r.1) (fin:=r.2) h2 g
  replace hB:=vX hB
  unfold Region.lexB at hB
  rw [Bl] at hB
  have hlen:os.length=ops.toList.length:=by
   have:∀ {l:List Oper} {id:Nat} {st:St} {os:List uI} {fin:St},aIp P T E ops.toList id l st os fin→os.length=l.length:=by
    intro l
    induction l with
    | nil=>intro id st os fin h;cases h;rfl
    | cons o l ih=>intro id st os fin h;cases h with | cons _ _ _ _ q os _ h hr=>simp [ih hr]
   exact this hlex
  have key:nM P T E ops.toList st.m.length (fun k=>os.getD k (.any,[],none)) r.2 ops.toList.length (Array.replicate ops.size false) st:=by
   refine nM.lex ops.toList 0 _ st os (fun j=>by simp) (fun j q hj=>by simp [Bm,hj]) (fun j hj=>absurd hj (aNq _)) (fun j oj hj hl => ?_) (fun i j _ hij hj => ?_) (by simpa using hB.2) (by simpa [ido] using hlex)
   ·exfalso
    rcases Nat.lt_or_ge j ops.size with h' | h'
    ·simp [h'] at hl
    ·simp [Nat.not_lt.2 h'] at hl
   have Dx:j<os.length:=by
    rw [hlen];obtain ⟨o,ho⟩:=Option.isSome_iff_exists.1 hj;exact (Bc.1 ho).1
   have:=lX r.1 0 hA i j (zP os[i]) (zP os[j]) hij (by rw [hfts,eX,Aq (by omega)];rfl) (by rw [hfts,eX,Aq Dx];rfl)
   rw [fG,fG] at this
   simp only [Bm,Aq Dx,Aq (show i<os.length by omega),Option.getD_some,Array.toArray_toList]
   exact this
  refine wpIn_region_any hm ?_;have:=nM.sound hT hE (C0:=C0) (M0:=M0) (w0:=w0) (ro:=ro) (n:=n) (Q:=fun e' a' w'=>e'=Ex.normal.toExit∧Sim P C0 M0 w0 r.2 a' w') (fun a' w' h'=>⟨rfl,h'⟩) _ _ _ a _ key (hs.drawn (w.drawn+1))
  simpa using this

theorem iK{b:Frame}{a:Act}{k:List Item}{cs:List Frame}{c:Code}:step P (lone (b.atR a (.code (.scope c)::k)) cs w) = .next (lone (b.atR a (.code c :: .inScope c::k)) cs w) :=
 step_lone_go (by simp [stepG,stepG.exec,Frame.atR])
theorem aCr{b:Frame}{a:Act}{k:List Item}{cs:List Frame}{c:Code}:step P (lone (b.atR a (.inScope c::k)) cs w) = .next (lone (b.atR a k) cs w) :=
 step_lone_go (by simp [stepG,stepG.exec,Frame.atR])
theorem aMc{F:Fence}{n:Nat}{c:Code}{Q:Exit→Act→World→Prop}{a:Act}(h:c.wpIn F n P (fun e a w=>(∀ l,e ≠ .goto l)∧Q e a w) a w):(Code.scope c).wpIn F n P Q a w:=by
 intro b k cs hro hb hr;have h0:(lone (b.atR a (.code (.scope c)::k)) cs w).fenced P F:=fenced_calm hb hr rfl;obtain ⟨e,a₁,w₁,⟨hg,hq⟩,harr⟩:=h b (.inScope c::k) cs hro hb hr;cases e with
 | normal=>exact ⟨.normal,a₁,w₁,hq,.head h0 iK (StepsIn.trans harr (.one (fenced_calm hb hr rfl) aCr))⟩
 | exit id =>
  have hx:exitTo id (.inScope c::k)=exitTo id k:=by simp [exitTo]
  exact ⟨.exit id,a₁,w₁,hq,fun k' hk => .head h0 iK (harr.1 k' (by rw [hx];exact hk)),
   fun Fv hk=>let ⟨k₁,h1,h2⟩:=harr.2 Fv (by rw [hx];exact hk);⟨k₁,h1,.head h0 iK h2⟩⟩
 | goto l=>exact absurd rfl (hg l)
 | ret=>exact ⟨_,a₁,w₁,hq,.of_steps (.one h0 iK) harr⟩
 | panic ch=>exact ⟨_,a₁,w₁,hq,.of_steps (.one h0 iK) harr⟩
 | outgrown=>exact ⟨_,a₁,w₁,hq,.of_steps (.one h0 iK) harr⟩

def LoopIn(F:Fence)(n:Nat)(P:Program)(c:Code)(Q:Exit→Act→World→Prop)(a:Act)(w:World):Prop :=
 ∀ (b:Frame) (k:List Item) (cs:List Frame),b.roundOf=F.round→F.fn b.fn→F.room (cs.length+1+n) →
  ∃ e a' w',Q e a' w'∧ArrivesIn (Machine.fenced P F) P (lone (b.atR a (.code c :: .inLoop c::k)) cs w) b k cs e a' w'

theorem LoopIn.step{F:Fence}{n:Nat}{c:Code}{Q:Exit→Act→World→Prop}{a:Act}(h:c.wpIn F n P (Exit.then (LoopIn F n P c Q) Q) a w):LoopIn F n P c Q a w:=by
 intro b k cs hro hb hr;obtain ⟨e,a₁,w₁,hq,harr⟩:=h b (.inLoop c::k) cs hro hb hr;cases e with
 | normal =>
  obtain ⟨e₂,a₂,w₂,hq₂,harr₂⟩:=hq b k cs hro hb hr;exact ⟨e₂,a₂,w₂,hq₂,.of_steps (StepsIn.trans harr (.one (fenced_calm hb hr rfl) stepR_inLoop)) harr₂⟩
 | exit id=>exact ⟨_,a₁,w₁,hq,.pass (x := .inLoop c) rfl (fun _ _ => .inl (by simp)) harr⟩
 | goto l=>exact ⟨_,a₁,w₁,hq,.pass (x := .inLoop c) rfl (fun _ _ => .inl (by simp)) harr⟩
 | ret=>exact ⟨_,a₁,w₁,hq,.pass (x := .inLoop c) rfl (fun _ _ => .inl (by simp)) harr⟩
 | panic ch=>exact ⟨_,a₁,w₁,hq,.pass (x := .inLoop c) rfl (fun _ _ => .inl (by simp)) harr⟩
 | outgrown=>exact ⟨_,a₁,w₁,hq,.pass (x := .inLoop c) rfl (fun _ _ => .inl (by simp)) harr⟩
theorem LoopIn.wp{F:Fence}{n:Nat}{c:Code}{Q:Exit→Act→World→Prop}{a:Act}(h:LoopIn F n P c Q a w):(Code.loop c).wpIn F n P Q a w:=by
 intro b k cs hro hb hr;obtain ⟨e,a',w',hq,harr⟩:=h b k cs hro hb hr;exact ⟨e,a',w',hq,.of_steps (.one (fenced_calm hb hr rfl) stepR_loop) harr⟩
end
section
variable {P:Program} {T:TT} {E:Env} {C C0:Cx} {M M0:Mem} {w w0:World}

theorem aTs{ops:Array Oper}{d:Bool}{st:St}:bP (aIo P T E ops d st):=by
 unfold aIo;split
 ·exact rP
 ·exact aJ fun _=>aY nL fun _=>aJ fun _=>aL _
theorem sV{b:St→Ask (Ex × St)}(h:∀ st,bP (b st)):∀ (n:Nat) (st:St),bP (aDo b n st)
 | 0,_=>aQ
 | n+1,st=>by
  unfold aDo;refine aY (h st) fun r => ?_
  split
  ·exact sV h n _
  ·exact aL _
theorem rI{k fuel:Nat}:∀ (c:Code) (st:St),bP (yF P T E k fuel c st):=by
 intro c
 induction c with
 | skip=>exact fun st=>aL _
 | region id ops d=>exact lB fun st=>aY aTs fun _=>aL _
 | seq a b iha ihb =>
  refine lB fun st => ?_
  refine aY (iha st) fun r => ?_
  split
  ·exact ihb _
  ·exact aL _
 | cond c a b iha ihb =>
  refine lB fun st => ?_
  refine aJ fun _=>aY aMr fun _ => ?_
  split
  ·exact iha _
  ·exact ihb _
 | block id b ih =>
  refine lB fun st => ?_
  refine aY (ih st) fun r => ?_
  split
  ·split <;> exact aL _
  ·exact aL _
 | loop b ih=>exact lB fun st=>aTt (sV ih _ _)
 | exit id=>exact fun st=>aL _
 | label l=>exact fun st=>aL _
 | scope b ih=>exact ih
 | ret=>exact fun st=>aL _
 | _=>exact lB fun st=>aQ

theorem xI{K:Nat}{c:Code}{b:St→Ask (Ex × St)}(hm:∀ st,bP (b st))(h:∀ {st e Ah s s'},b st s=some ((e,Ah),s')→aX s'→aC P K c st e Ah):∀ (n:Nat) {st:St} {e:Ex} {Ah:St} {s s':AS},aDo b n st s=some ((e,Ah),s')→aX s' →
  ∀ (C0:Cx) (M0:Mem) (w0:World) (a:Act) (w:World),M0.length≤K→Sim P C0 M0 w0 st a w→∀ (ro:Option Nat),kM ro c→∀ (k:Nat),LoopIn (Fen ro) k P c (fun e' a' w'=>e'=e.toExit∧e' ≠ .normal∧Sim P C0 M0 w0 Ah a' w') a w
 | 0,st,e,Ah,s,s',h0,_=>(aR h0).elim
 | n+1,st,e,Ah,s,s',h0,g=>by
  intro C0 M0 w0 a w hK hs ro hro k;unfold aDo at h0
  obtain ⟨⟨e1,st1⟩,s1,h1,k1⟩:=aD h0;refine LoopIn.step ?_;cases e1 with
  | normal =>
   have g1:=(sV hm n st1).good k1 g;have ih:=xI hm h n k1 g C0 M0 w0;refine wpIn_mono (h h1 g1 C0 M0 w0 a w hK hs ro hro k) ?_;rintro e' a' w' ⟨rfl,B1⟩;exact ih a' w' hK B1 ro hro k
  | ret =>
   obtain ⟨he,rfl⟩:=aI k1;cases he;refine wpIn_mono (h h1 g C0 M0 w0 a w hK hs ro hro k) ?_;rintro e' a' w' ⟨rfl,B1⟩;exact ⟨rfl,nofun,B1⟩
  | exit id =>
   obtain ⟨he,rfl⟩:=aI k1;cases he;refine wpIn_mono (h h1 g C0 M0 w0 a w hK hs ro hro k) ?_;rintro e' a' w' ⟨rfl,B1⟩;exact ⟨rfl,nofun,B1⟩

theorem zM(hT:∀ t i,T t=some i→bY P t=some i)(hE:kS P E)(hm:P.follows .mixedOrders=true){k fuel:Nat}:∀ (c:Code) {st:St} {e:Ex} {Ah:St} {s s':AS},yF P T E k fuel c st s=some ((e,Ah),s')→aX s'→aC P k c st e Ah:=by
 intro c
 induction c with
 | skip =>
  intro st e Ah s s' h g C0 M0 w0 a w hk hs ro hro n;obtain ⟨he,rfl⟩:=aI h;cases he;exact wpIn_skip ⟨rfl,hs⟩
 | region id ops d =>
  intro st e Ah s s' h g;refine jL ?_ h g;intro st Ah e s s' h g;obtain ⟨st1,s1,h1,k1⟩:=aD h;obtain ⟨he,rfl⟩:=aI k1;cases he;exact aMb hT hE hm h1 g
 | seq a b iha ihb =>
  intro st e Ah s s' h g;refine jL ?_ h g;intro st Ah e s s' h g C0 M0 w0 ac w hk hs ro hro n;obtain ⟨⟨e1,st1⟩,s1,h1,k1⟩:=aD h;refine wpIn_seq ?_;cases e1 with
  | normal =>
   have g1:=(rI b st1).good k1 g;refine wpIn_mono (iha h1 g1 C0 M0 w0 ac w hk hs ro hro.seq1 n) ?_;rintro e' a' w' ⟨rfl,B1⟩;exact ihb k1 g C0 M0 w0 a' w' hk B1 ro hro.seq2 n
  | ret =>
   obtain ⟨he,rfl⟩:=aI k1;cases he;refine wpIn_mono (iha h1 g C0 M0 w0 ac w hk hs ro hro.seq1 n) ?_;rintro e' a' w' ⟨rfl,B1⟩;exact ⟨rfl,B1⟩
  | exit id =>
   obtain ⟨he,rfl⟩:=aI k1;cases he;refine wpIn_mono (iha h1 g C0 M0 w0 ac w hk hs ro hro.seq1 n) ?_;rintro e' a' w' ⟨rfl,B1⟩;exact ⟨rfl,B1⟩
 | cond c a b iha ihb =>
  intro st e Ah s s' h g;refine jL ?_ h g;intro st Ah e s s' h g C0 M0 w0 ac w hk hs ro hro n;obtain ⟨x,s1,h1,k1⟩:=aD h;obtain ⟨e1,rfl⟩:=aE h1;obtain ⟨d,s2,h2,k2⟩:=aD k1;have K8:=hs;obtain ⟨C,hS,_⟩:=K8;cases d with
  | true =>
   obtain ⟨hb,_⟩:=oK (hS.ev e1) h2 ((rI a st).good k2 g);exact wpIn_cond_true hb (iha k2 g C0 M0 w0 ac w hk hs ro hro.cond1 n)
  | false =>
   obtain ⟨hb,_⟩:=oK (hS.ev e1) h2 ((rI b st).good k2 g);exact wpIn_cond_false hb (ihb k2 g C0 M0 w0 ac w hk hs ro hro.cond2 n)
 | block id b ih =>
  intro st e Ah s s' h g;refine jL ?_ h g;intro st Ah e s s' h g C0 M0 w0 ac w hk hs ro hro n;obtain ⟨⟨e1,st1⟩,s1,h1,k1⟩:=aD h;refine wpIn_block ?_;cases e1 with
  | normal =>
   obtain ⟨he,rfl⟩:=aI k1;cases he;refine wpIn_mono (ih h1 g C0 M0 w0 ac w hk hs ro hro.block n) ?_;rintro e' a' w' ⟨rfl,B1⟩;exact ⟨rfl,B1⟩
  | ret =>
   obtain ⟨he,rfl⟩:=aI k1;cases he;refine wpIn_mono (ih h1 g C0 M0 w0 ac w hk hs ro hro.block n) ?_;rintro e' a' w' ⟨rfl,B1⟩;exact ⟨rfl,B1⟩
  | exit i =>
   dsimp only at k1
   cases hb:Nat.beq i id with
   | true =>
    rw [hb] at k1
    obtain ⟨he,rfl⟩:=aI k1;cases he;have hid:i=id:=Nat.eq_of_beq_eq_true hb;refine wpIn_mono (ih h1 g C0 M0 w0 ac w hk hs ro hro.block n) ?_;rintro e' a' w' ⟨rfl,B1⟩;simp only [Ex.toExit,Exit.inBlock,hid,if_true];exact ⟨trivial,B1⟩
   | false =>
    rw [hb] at k1
    obtain ⟨he,rfl⟩:=aI k1;cases he;have hid:i≠id:=Nat.ne_of_beq_eq_false hb;refine wpIn_mono (ih h1 g C0 M0 w0 ac w hk hs ro hro.block n) ?_;rintro e' a' w' ⟨rfl,B1⟩;simp only [Ex.toExit,Exit.inBlock,hid,if_false];exact ⟨trivial,B1⟩
 | loop b ih =>
  intro st e Ah s s' h g;refine jL ?_ h g;intro st Ah e s s' h g C0 M0 w0 ac w hk hs ro hro n;refine wpIn_mono (LoopIn.wp (xI (rI b) ih fuel (bBx h) g C0 M0 w0 ac w hk hs ro hro.loop n)) ?_;rintro e' a' w' ⟨h1,_,h2⟩;exact ⟨h1,h2⟩
 | exit id =>
  intro st e Ah s s' h g C0 M0 w0 a w hk hs ro hro n;obtain ⟨he,rfl⟩:=aI h;cases he;exact wpIn_exit ⟨rfl,hs⟩
 | label l =>
  intro st e Ah s s' h g C0 M0 w0 a w hk hs ro hro n;obtain ⟨he,rfl⟩:=aI h;cases he;exact wpIn_label ⟨rfl,hs⟩
 | scope b ih =>
  intro st e Ah s s' h g C0 M0 w0 a w hk hs ro hro n;refine aMc (wpIn_mono (ih h g C0 M0 w0 a w hk hs ro hro.scope n) ?_);rintro e' a' w' ⟨rfl,B1⟩;exact ⟨fun l=>by cases e <;> simp [Ex.toExit],rfl,B1⟩
 | ret =>
  intro st e Ah s s' h g C0 M0 w0 a w hk hs ro hro n;obtain ⟨he,rfl⟩:=aI h;cases he;exact wpIn_ret ⟨rfl,hs⟩
 | _ =>
  intro st e Ah s s' h g;refine jL ?_ h g;intro st Ah e s s' h g;exact (aR h).elim
end
section
variable {P:Program} {T:TT} {E:Env} {C C0:Cx} {M M0:Mem} {w w0:World}

def bVa(T:TT)(st:St):ResultVar→Ask AV
 | .tmp t=>lift st.t[t]?
 | .cell a t=>do
  let x ← lift st.t[a]?
  vload T st.m t x
def aLy(T:TT)(st:St):List ResultVar→Ask (List AV)
 | []=>pure []
 | r::l=>do
  let x ← bVa T st r
  let xs ← aLy T st l
  pure (x::xs)
def bBv:List AV→AV
 | [x]=>x
 | l => .tup l

def aDl:Mem→Bool
 | []=>true
 | some (.pk _ _ _ _)::_=>false
 | _::r=>aDl r
theorem nI:∀ {m:Mem},aDl m=true→aMn m
 | [],_,i,o,h=>by simp at h
 | none::r,hm,i,o,h=>by
  cases i with
  | zero=>simp at h
  | succ i=>exact nI (m:=r) hm i o (by simpa using h)
 | some x::r,hm,i,o,h=>by
  cases i with
  | zero =>
   simp at h;subst h
   cases x with
   | pk=>simp [aDl] at hm
   | _=>rfl
  | succ i =>
   refine nI (m:=r) ?_ i o (by simpa using h)
   cases x with
   | pk=>simp [aDl] at hm
   | _=>simpa [aDl] using hm
def aLz(P:Program)(T:TT)(E:Env)(fuel:Nat)(fn:Func)(c:Code)(args:List AV)(m:Mem):Ask (AV × Mem):=do
 lift (if aDl m=true then some () else none)
 let r ← yF P T E m.length fuel c ⟨args++List.replicate (fn.ntmps-args.length) .any,m⟩
 match r.1 with
 | .exit _=>fail
 | _=>do
  let l ← aLy T r.2 fn.results.toList
  pure (bBv l,r.2.m)

def FMM(P:Program)(f:Nat)(args:List AV)(M:Mem)(r:AV)(M':Mem):Prop :=
 ∀ (C:Cx) (w:World) (us:List Value),cN C M w args us→aP P C M w→∀ n,CallsIn Fence.wide n P f us.toArray w (fun e w'=>∃ u,e = .returned u∧∃ C',Fr C M w C' M' w'∧aP P C' M' w'∧Rep C' M' w' r u)

def sU(P:Program)(f:Nat)(args:List AV)(M:Mem)(r:AV)(M':Mem):Prop :=
 ∀ (C:Cx) (w:World) (us:List Value),cN C M w args us→aP P C M w→∀ n,CallsIn Fence.wide n P f us.toArray w (fun e w'=>∃ u,e = .returned u∧∃ C',Fr C M w C' M' w'∧aP P C' M' w'∧Rep C' M' w' r u∧lH (C.with []) M M' C' w w')
theorem sU.fmm{f:Nat}{args:List AV}{M M':Mem}{r:AV}(h:sU P f args M r M'):FMM P f args M r M':=fun C w us hus hM n=>(h C w us hus hM n).mono fun _ w' ⟨u,q,C',h1,h2,h3,_⟩=>⟨u,q,C',h1,h2,h3⟩

theorem vW{st:St}:∀ (l:List ResultVar),bP (aLy T st l)
 | []=>aL _
 | r::l=>by
  unfold aLy;refine aY ?_ fun _=>aY (vW l) fun _=>aL _
  cases r with
  | tmp t=>exact lD _
  | cell a t=>exact aJ fun _=>aAc

def zK(tmps:Array Value):ResultVar→Sem Value
 | .tmp t=>pure (tmps.getD t undef)
 | .cell a t=>do loadVar t (← asAddr (tmps.getD a undef))

theorem aTr{t:Nat}{y x:AV}{u:Value}{s s':AS}(h:vload T M t y s=some (x,s'))(hy:Rep C M w y u):∃ p,u = .pointer (some p):=by
 unfold vload at h
 obtain ⟨i,s1,h1,k1⟩:=aD h
 split at k1
 ·rename_i id off
  obtain ⟨o,s2,h2,k2⟩:=aD k1;obtain ⟨e2,rfl⟩:=aE h2;have hl:o.live=true:=by
   cases o with
   | dead=>exact (aR k2).elim
   | _=>rfl
  obtain ⟨b,hu,_⟩:=fK hy (iD (dJ e2) hl);exact ⟨_,hu⟩
 ·cases hy;exact ⟨_,rfl⟩
 ·exact (aR k1).elim

theorem aMa(hT:∀ t i,T t=some i→bY P t=some i)(hM:aP P C M w){ts:List AV}{us:Array Value}(hS:dP C M w ts us){r:ResultVar}{x:AV}{s s':AS}(h:bVa T ⟨ts,M⟩ r s=some (x,s'))(g:aX s') :
  ∃ u,(zK us r).run P w = .ok u w∧Rep C M w x u:=by
 cases r with
 | tmp t =>
  obtain ⟨e1,rfl⟩:=aE h;exact ⟨_,rfl,hS.at e1⟩
 | cell a t =>
  obtain ⟨y,s1,h1,k1⟩:=aD h;obtain ⟨e1,rfl⟩:=aE h1;obtain ⟨_,u,h2,h3⟩:=xU hT hM (hS.at e1) k1 g
  refine ⟨u,?_,h3⟩;obtain ⟨p,hp⟩:=aTr k1 (hS.at e1)
  unfold Instr.loadAt at h2
  simp only [zK];rw [hp] at h2 ⊢
  exact h2

theorem zL(hT:∀ t i,T t=some i→bY P t=some i)(hM:aP P C M w){ts:List AV}{us:Array Value}(hS:dP C M w ts us):∀ (l:List ResultVar) {xs:List AV} {s s':AS},aLy T ⟨ts,M⟩ l s=some (xs,s')→aX s' →
  ∃ vs:List Value,(l.mapM (zK us)).run P w = .ok vs w∧cN C M w xs vs
 | [],xs,s,s',h,g=>by
  obtain ⟨rfl,rfl⟩:=aI h;exact ⟨[],rfl,.nil⟩
 | r::l,xs,s,s',h,g=>by
  obtain ⟨x,s1,h1,k1⟩:=aD h;obtain ⟨ys,s2,h2,k2⟩:=aD k1;obtain ⟨rfl,rfl⟩:=aI k2;obtain ⟨u,e1,r1⟩:=aMa hT hM hS h1 ((vW l).good h2 g);obtain ⟨vs,e2,r2⟩:=zL hT hM hS l h2 g;refine ⟨u::vs,?_,.cons _ _ _ _ r1 r2⟩;rw [List.mapM_cons,Sem.run_bind,e1,Result.andThen_ok,Sem.run_bind,e2,Result.andThen_ok,Sem.run_pure]

theorem aIn{fn:Func}{us:Array Value}{vs:List Value}(h:(fn.results.toList.mapM (zK us)).run P w = .ok vs w):(results fn us).run P w = .ok (if _:vs.length=1 then vs[0] else .tuple vs.toArray) w:=by
 have e:(results fn us)=(do let vs ← fn.results.mapM (zK us);pure (if h:vs.size=1 then vs[0] else .tuple vs)):=by
  unfold results
  congr 1
 rw [e,Sem.run_bind,Array.mapM_eq_mapM_toList,Sem.run_map,h,Result.andThen_ok,Result.andThen_ok,Sem.run_pure]
 congr 1

theorem bHb{xs:List AV}{vs:List Value}(h:cN C M w xs vs):Rep C M w (bBv xs) (if _:vs.length=1 then vs[0] else .tuple vs.toArray):=by
 have hl:=h.len;cases h with
 | nil=>exact .tup [] _ rfl (fun i h=>by simp at h)
 | cons x u l k hx hr =>
  cases hr with
  | nil=>exact hx
  | cons y v l k hy hr =>
   have hne:¬ (u::v::k).length=1:=by simp
   rw [dif_neg hne];refine .tup _ _ (by simpa using hl) (fun i hi => ?_)
   have:=(cN.cons x u _ _ hx (cN.cons y v l k hy hr)).at i hi
   rwa [← bN] at this

theorem Sim.take{st:St}{a:Act}{d:Deferred}{ds:List Deferred}(h:Sim P C0 M0 w0 st a w)(hd:a.defers=d::ds):∃ D,d=mark D∧w.heap[D]? = some (.deferred (some []))∧Sim P C0 M0 w0 st { a with defers:=ds } (w.putObj D (.deferred none)):=by
 obtain ⟨C,hS,hM,hF,⟨l,h1,h2,h3⟩,hR,hP⟩:=h;rw [hd] at h1
 cases l with
 | nil=>simp at h1
 | cons D l =>
  rw [gY,List.cons.injEq] at h1
  obtain ⟨rfl,rfl⟩:=h1;obtain ⟨q1,q2,q3⟩:=h3 D (by simp)
  obtain ⟨hnd,N8⟩:=List.nodup_cons.1 h2;have hg:=grownBy_putObj' w D (.deferred none);have hsz:(w.putObj D (.deferred none)).heap.size=w.heap.size:=by simp [World.putObj]
  have hk:∀ b,b≠D→(w.putObj D (.deferred none)).heap[b]? = w.heap[b]? := fun b hb=>by
   rcases Nat.lt_or_ge b w.heap.size with h | h
   ·exact hg.block b h (by simpa using hb)
   ·rw [Array.getElem?_eq_none h,Array.getElem?_eq_none (by omega)]
  have hlive:∀ (id:Nat) (o:AO) (b:Nat),st.m[id]? = some (some o)→o.live=true→C.ι id=some b→b≠D:=fun id o b ho hl hb e=>by
   subst e;exact aJa hM hP ho hl hb q1
  have hL:Le C C st.m st.m w (w.putObj D (.deferred none)):=⟨fun _ o h=>⟨o,h⟩,fun _ _ _ _ _ cs h=>⟨cs,h⟩,fun _ o h o' h' hl=>by rw [h] at h';cases h';exact ⟨hl,rfl,rfl⟩,fun _ h=>h,fun b hb=>hk b fun e=>q3 (e ▸ hb)⟩
  refine ⟨D,rfl,q1,C,hS.le hL,⟨fun i Cn n cs hm => ?_,fun i Cn cs hm => ?_,fun i es cl hm => ?_,hM.inj,hM.nF,fun b hb=>by rw [hsz];exact hM.Fs b hb,fun i x b hm hl hb=>by rw [hsz];exact hM.lt i x b hm hl hb⟩,
   ⟨hg.os.trans hF.os,hg.tape.trans hF.tape,hg.output.trans hF.out,fM hF.size hg.size,fun b hb hn=>(hk b (by omega)).trans (hF.keep b hb hn),hF.ids,hF.row,hF.liv,hF.new,hF.F1,hF.F2⟩,⟨l,rfl,N8,fun D' Im => ?_⟩,fun p hp => ?_,fun i to ti sz L hm => ?_,hP.2⟩
  ·rcases hM.row _ _ _ _ hm with h4 | ⟨b,arr,inf,q0,Io,Ip,Jg,q4,q5,q6,q7,q8⟩
   ·exact .inl h4
   ·exact .inr ⟨b,arr,inf,q0,by rw [hk b (hlive _ _ _ hm rfl q0)];exact Io,Ip,Jg,q4,q5,q6,fun j hj=>(q7 j hj).mono hL.F hL.fz,q8⟩
  ·obtain ⟨b,arr,q0,Io,Ip,Jg,q4⟩:=hM.box _ _ _ hm
   exact ⟨b,arr,q0,by rw [hk b (hlive _ _ _ hm rfl q0)];exact Io,Ip,fun j hj=>(Jg j hj).mono hL,q4⟩
  ·obtain ⟨b,arr,q0,Io,Ip,Jg⟩:=hM.mp _ _ _ hm
   refine ⟨b,arr,q0,by rw [hk b (hlive _ _ _ hm rfl q0)];exact Io,Ip,fun j hj => ?_⟩
   obtain ⟨en,r1,r2,r3,r4⟩:=Jg j hj;exact ⟨en,r1,r2,r3,r4.mono hL.F hL.fz⟩
  ·obtain ⟨r1,r2,r3⟩:=h3 D' (Cj _ Im)
   exact ⟨by rw [hk D' (fun e=>hnd (e ▸ Im))];exact r1,r2,r3⟩
  ·obtain ⟨r1,r2,r3,r4,r5⟩:=hR p hp
   exact ⟨by rw [hk p.1 (fun e=>r3 (by rw [e,q1] at r1;exact (Option.some.inj r1).symm))];exact r1,r2,r3,r4,r5⟩
  ·obtain ⟨p,p0,p1⟩:=hP.1 _ _ _ _ _ hm
   exact ⟨p.move p.io rfl (fun _ h=>h) hL.fz fun b hb=>⟨hk b (fun e=>by
    obtain ⟨_,arr,ty,r1⟩:=p.lt hb;rw [e,q1] at r1;cases r1),p.own b hb⟩,p0,p1⟩

theorem xH(hT:∀ t i,T t=some i→bY P t=some i)(hE:kS P E)(hm:P.follows .mixedOrders=true){fuel f:Nat}{fn:Func}{c:Code}(hf:P.funcs[f]? = some fn)(hb:fn.body=some c){args:List AV}{r:AV}{M':Mem}{s s':AS}
  (h:aLz P T E fuel fn c args M s=some ((r,M'),s')) (g:aX s'):sU P f args M r M':=by
 intro C w us hus hM n;unfold aLz at h
 obtain ⟨_,s0,h0,k0⟩:=aD h;obtain ⟨e0,rfl⟩:=aE h0;have hnp:=nI (bE e0).1;obtain ⟨⟨e,st⟩,s1,h1,k1⟩:=aD k0;have hlen:=hus.len;have hS:dP C M w (args++List.replicate (fn.ntmps-args.length) .any) (us.toArray++Array.replicate (fn.ntmps-us.toArray.size) undef):=by
  refine ⟨by simp [hlen],fun i hi => ?_⟩
  by_cases c1:i<args.length
  ·rw [yJ c1,Bb,Array.getElem?_append_left (by simp;omega)]
   have:=hus.at i c1
   rwa [← bN,Bb] at this
  ·rw [aKd (by omega),List.getElem_replicate]
   exact .any _
 have hsim:Sim P (C.with []) M w ⟨args++List.replicate (fn.ntmps-args.length) .any,M⟩ { tmps:=us.toArray++Array.replicate (fn.ntmps-us.toArray.size) undef,defers:=[] } w:=⟨C,hS,hM,(Fr.refl ..).based [],.nil rfl hnp⟩
 refine callsIn_of_wp_marks hf hb trivial ?_;have fin:∀ (e':Exit) (a':Act) (w':World),(e' = .normal∨e' = .ret)→Sim P (C.with []) M w st a' w'→(∃ l s2,aLy T st fn.results.toList s1=some (l,s2)∧aX s2∧r=bBv l∧M'=st.m)→bodyPostM Fence.wide n P fn (fun e w'=>∃ u,e = .returned u∧∃ C',Fr C M w C' M' w'∧aP P C' M' w'∧Rep C' M' w' r u∧lH (C.with []) M M' C' w w') e' a' w':=by
  rintro e' a' w' he B1 ⟨l,s2,h2,g2,rfl,rfl⟩;have key:∀ (ds:List Deferred) (a':Act) (w':World),a'.defers=ds→Sim P (C.with []) M w st a' w'→LeavesInM Fence.wide n P fn a'.tmps (fun e w'=>∃ u,e = .returned u∧∃ C',Fr C M w C' st.m w'∧aP P C' st.m w'∧Rep C' st.m w' (bBv l) u∧lH (C.with []) M st.m C' w w') ds .returning w':=by
   intro ds
   induction ds with
   | nil =>
    rintro a' w' hd ⟨C',Rm,Fu,Nw,_,_,Rn⟩;obtain ⟨ts,m⟩:=st;obtain ⟨vs,e2,r2⟩:=zL hT Fu Rm fn.results.toList h2 g2;exact ⟨_,aIn e2,_,rfl,C',Nw.unbased,Fu,bHb r2,Rn⟩
   | cons d ds ih =>
    intro a' w' hd B1;obtain ⟨D,rfl,hD,Jh⟩:=B1.take hd;exact ⟨by simp,.inl ⟨_,_,rfl,run_takeDeferred hD,ih { a' with defers:=ds } _ rfl Jh⟩⟩
  rcases he with rfl | rfl
  ·exact key _ a' w' rfl B1
  ·exact key _ a' w' rfl B1
 have out:(e = .normal∨e = .ret)∧∃ l s2,aLy T st fn.results.toList s1=some (l,s2)∧aX s2∧r=bBv l∧M'=st.m:=by
  cases e with
  | exit id=>exact (aR k1).elim
  | normal =>
   obtain ⟨l,s2,h2,k2⟩:=aD k1;obtain ⟨he,rfl⟩:=aI k2;cases he;exact ⟨.inl rfl,l,_,h2,g,rfl,rfl⟩
  | ret =>
   obtain ⟨l,s2,h2,k2⟩:=aD k1;obtain ⟨he,rfl⟩:=aI k2;cases he;exact ⟨.inr rfl,l,_,h2,g,rfl,rfl⟩
 obtain ⟨he,l,s2,h2,g2,e3,e4⟩:=out;have g1:=(vW _).good h2 g2;refine wpIn_mono (zM hT hE hm c h1 g1 (C.with []) M w _ w (dH _) hsim none (.inl rfl) n) ?_
 rintro e' a' w' ⟨rfl,B1⟩;exact fin _ a' w' (by rcases he with rfl | rfl <;> simp [Ex.toExit]) B1 ⟨l,s2,h2,g2,e3,e4⟩
end
section
variable {P:Program} {T:TT} {E:Env} {C C0:Cx} {M M0:Mem} {w w0:World}

mutual
def aIm:PV→Bool
 | .v _=>true
 | .sl _ cs=>match cs with
  | []=>true
  | _=>false
 | .agg cs=>aDk cs
 | .mp _=>false
 | .rp _ _=>false
def aDk:List PV→Bool
 | []=>true
 | x::r=>match aIm x with
  | true=>aDk r
  | false=>false
end
mutual
def rig:AV→Bool
 | .p x=>aIm x
 | .kb _=>true
 | .any=>true
 | .yld _=>true
 | .agg cs=>aLx cs
 | .fn _ a b=>match aLx a with
  | true=>aLx b
  | false=>false
 | _=>false
def aLx:List AV→Bool
 | []=>true
 | x::r=>match rig x with
  | true=>aLx r
  | false=>false
end
mutual
def noRef:AV→Bool
 | .p _=>true
 | .kb _=>true
 | .any=>true
 | .yld _=>true
 | .rp _ _=>true
 | .agg cs=>iR cs
 | .fn _ a b=>match iR a with
  | true=>iR b
  | false=>false
 | _=>false
def iR:List AV→Bool
 | []=>true
 | x::r=>match noRef x with
  | true=>iR r
  | false=>false
end

theorem zJ:∀ {l:List PV},aDk l=true→∀ i (h:i<l.length),aIm l[i]=true
 | [],_,i,h=>by simp at h
 | x::r,hr,i,h=>by
  unfold aDk at hr
  split at hr
  ·cases i with
   | zero=>assumption
   | succ i=>exact zJ hr i (by simpa using h)
  ·cases hr
theorem yS:∀ {l:List AV},aLx l=true→∀ i (h:i<l.length),rig l[i]=true
 | [],_,i,h=>by simp at h
 | x::r,hr,i,h=>by
  unfold aLx at hr
  split at hr
  ·cases i with
   | zero=>assumption
   | succ i=>exact yS hr i (by simpa using h)
  ·cases hr
theorem nH:∀ {l:List AV},iR l=true→∀ i (h:i<l.length),noRef l[i]=true
 | [],_,i,h=>by simp at h
 | x::r,hr,i,h=>by
  unfold iR at hr
  split at hr
  ·cases i with
   | zero=>assumption
   | succ i=>exact nH hr i (by simpa using h)
  ·cases hr

theorem cB.rig{F G:Nat→Prop}{w w':World}{x:PV}{u:Value}(h:cB F w x u)(hr:aIm x=true):cB G w' x u:=by
 induction h with
 | v x=>exact .v x
 | sl n cs p cap us h1 h2 h3 _ h5 ih =>
  cases cs with
  | nil=>exact .sl n [] p cap us h1 h2 (fun i h=>by simp at h) (fun i h=>by simp at h) (fun i h=>by simp at h)
  | cons=>simp [aIm] at hr
 | agg cs vs h0 h1 _ ih =>
  have Fv:aDk cs=true:=by simpa [aIm] using hr
  exact .agg cs vs h0 h1 fun i hi=>ih i hi (zJ Fv i hi)
 | mp=>simp [aIm] at hr
 | rp=>simp [aIm] at hr

theorem Rep.rig{C C':Cx}{M M':Mem}{w w':World}{x:AV}{u:Value}(h:Rep C M w x u)(hr:rig x=true):Rep C' M' w' x u:=by
 induction h with
 | p x u h=>exact .p x u (h.rig (by simpa [KV.rig] using hr))
 | any u=>exact .any u
 | kb b=>exact .kb b
 | yld l=>exact .yld l
 | agg cs vs h0 h1 _ ih =>
  have Fv:aLx cs=true:=by simpa [KV.rig] using hr
  exact .agg cs vs h0 h1 fun i hi=>ih i hi (yS Fv i hi)
 | fn f cs ds us vs h1 h2 _ _ J2 J3 =>
  simp only [KV.rig] at hr
  split at hr
  ·rename_i Gw
   exact .fn f cs ds us vs h1 h2 (fun i hi=>J2 i hi (yS Gw i hi)) (fun i hi=>J3 i hi (yS hr i hi))
  ·cases hr
 | _=>simp [KV.rig] at hr

theorem Rep.noRef{C C':Cx}{M M':Mem}{w w':World}{x:AV}{u:Value}(h:Rep C M w x u)(hr:noRef x=true)(hF:∀ b,C.F b→C'.F b)(hz:∀ b,C.F b→w'.heap[b]? = w.heap[b]?):Rep C' M' w' x u:=by
 induction h with
 | p x u h=>exact .p x u (h.mono hF hz)
 | any u=>exact .any u
 | kb b=>exact .kb b
 | yld l=>exact .yld l
 | rp cs off b o us h1 h2 h3=>exact .rp cs off b o us (fun i hi=>⟨hF _ (h1 i hi).1,(dV (hz _ (h1 i hi).1) _).trans (h1 i hi).2⟩) (fun i hi=>(h2 i hi).mono hF hz) h3
 | agg cs vs h0 h1 _ ih =>
  have Fv:iR cs=true:=by simpa [KV.noRef] using hr
  exact .agg cs vs h0 h1 fun i hi=>ih i hi (nH Fv i hi)
 | fn f cs ds us vs h1 h2 _ _ J2 J3 =>
  simp only [KV.noRef] at hr
  split at hr
  ·rename_i Gw
   exact .fn f cs ds us vs h1 h2 (fun i hi=>J2 i hi (nH Gw i hi)) (fun i hi=>J3 i hi (nH hr i hi))
  ·cases hr
 | _=>simp [KV.noRef] at hr

def Cx.bare(C:Cx)(G:Nat→Prop):Cx:={ ι:=fun _=>none,κ:=C.κ,F:=G }

section
variable {G:Nat→Prop} (hM:aP P C M w) (hG:∀ b,C.F b→G b) (hO:∀ (id:Nat) (o:AO) (b:Nat),M[id]? = some (some o)→o.live=true→C.ι id=some b→G b)
include hM hG hO

theorem xF{x:AV}{u:Value}{y:PV}(h:Rep C M w x u)(hv:D3 M x=some y):cB G w y u:=by
 unfold D3 at hv
 split at hv
 ·cases hv;cases h with | p _ _ h=>exact h.mono hG (fun _ _=>rfl)
 ·cases hv;cases h;exact .v _
 ·split at hv
  ·rename_i id _ r hr
   cases hv;have ho:=cS hr;refine (tG hM ho h).mono (fun b hb => ?_) (fun _ _=>rfl)
   rcases hb with hb | ⟨_,hb⟩
   ·exact hG b hb
   ·exact hO _ _ b ho rfl hb
  ·cases hv
 ·cases hv

theorem xG:∀ {l:List AV} {us:Nat→Value} {ys:List PV},(∀ i (h:i<l.length),Rep C M w l[i] (us i))→aAf M l=some ys→ys.length=l.length∧∀ i (h:i<ys.length),cB G w ys[i] (us i)
 | [],_,ys,_,hv=>by cases hv;exact ⟨rfl,fun i h=>by simp at h⟩
 | x::r,us,ys,h,hv=>by
  unfold aAf at hv
  split at hv
  ·rename_i y h1
   split at hv
   ·rename_i l h2
    cases hv;obtain ⟨q1,q2⟩:=xG (us:=fun i=>us (i+1)) (fun i hi=>h (i+1) (by simpa using hi)) h2
    refine ⟨by simp [q1],fun i hi => ?_⟩
    cases i with
    | zero=>exact xF hM hG hO (h 0 (by simp)) h1
    | succ i=>exact q2 i (by simpa using hi)
   ·cases hv
  ·cases hv

set_option linter.unusedSectionVars false in
mutual
theorem sS:∀ {x:AV} {u:Value} {y:AV},Rep C M w x u→view M x=some y→Rep (C.bare G) [] w y u
 | .p x,u,y,h,hv=>by
  simp only [view] at hv
  cases hv;cases h with | p _ _ h=>exact .p _ _ (h.mono hG (fun _ _=>rfl))
 | .kb b,u,y,h,hv=>by simp only [view] at hv;cases hv;cases h;exact .kb _
 | .any,u,y,h,hv=>by simp only [view] at hv;cases hv;exact .any _
 | .yld l,u,y,h,hv=>by simp only [view] at hv;cases hv;cases h;exact .yld _
 | .own id,u,y,h,hv=>by
  simp only [view] at hv
  split at hv
  ·rename_i r hr
   cases hv;exact .p _ _ (xF hM hG hO h (by simp only [D3,hr]))
  ·cases hv
 | .rp cs off,u,y,h,hv=>by
  simp only [view] at hv
  cases hv;cases h with
  | rp _ _ b o us h1 h2 h3=>exact .rp cs off b o us (fun i hi=>⟨hG _ (h1 i hi).1,(h1 i hi).2⟩) (fun i hi=>(h2 i hi).mono hG (fun _ _=>rfl)) h3
 | .ptr id off,u,y,h,hv=>by
  simp only [view] at hv
  split at hv
  ·rename_i ty n cs ho
   cases hv;have ho:=dJ ho;obtain ⟨b,rfl,hb⟩:=fK h (iD ho rfl)
   rcases hM.row _ _ _ _ ho with ⟨hn,_⟩ | ⟨b',arr,inf,Al,q1,q2,q3,q4,q5,q6,q7,q8⟩
   ·rw [hb] at hn;cases hn
   ·rw [hb] at Al;cases Al
    have hle:cs.length≤arr.size:=by rw [q3,q4];exact Nat.mul_le_mul_right _ q5
    have:=Rep.rp (C:=C.bare G) (M:=[]) (w:=w) cs off b 0 (fun j=>arr.getD j undef) (fun i hi=>⟨hO _ _ b ho rfl hb,by rw [fG];exact bJ q1 (by omega)⟩) (fun i hi=>(q7 i hi).mono hG (fun _ _=>rfl)) q8
    rwa [fG] at this
  ·rename_i ty cs ho
   have ho:=dJ ho
   split at hv
   ·rename_i xs hx
    cases hv;obtain ⟨b,rfl,hb⟩:=fK h (iD ho rfl);obtain ⟨b',arr,Al,q1,q2,q3,q4⟩:=hM.box _ _ _ ho;rw [hb] at Al;cases Al
    obtain ⟨r1,r2⟩:=xG hM hG hO (us:=fun j=>arr.getD j undef) q3 hx
    have:=Rep.rp (C:=C.bare G) (M:=[]) (w:=w) xs off b 0 (fun j=>arr.getD j undef) (fun i hi=>⟨hO _ _ b ho rfl hb,by rw [fG];exact bJ q1 (by omega)⟩) r2 (fun i hi=>q4 i (by omega))
    rwa [fG] at this
   ·cases hv
  ·cases hv
 | .agg cs,u,y,h,hv=>by
  simp only [view] at hv
  split at hv
  ·rename_i xs hx
   cases hv;cases h with
   | agg _ vs h0 h1 h2 =>
    obtain ⟨q1,q2⟩:=kG (us:=fun i=>vs.getD i undef) h2 hx
    exact kH (fun i hi=>h0 i (by omega)) (by omega) q2
  ·cases hv
 | .fn f a b,u,y,h,hv=>by
  simp only [view] at hv
  split at hv
  ·rename_i a' ha
   split at hv
   ·rename_i b' hb
    cases hv;cases h with
    | fn _ _ _ us vs h1 h2 h3 h4 =>
     obtain ⟨q1,q2⟩:=kG (us:=fun i=>us.getD i undef) h3 ha
     obtain ⟨r1,r2⟩:=kG (us:=fun i=>vs.getD i undef) h4 hb
     exact .fn f a' b' us vs (by omega) (by omega) q2 r2
   ·cases hv
  ·cases hv
 | .arr id off n,u,y,h,hv=>by
  simp only [view] at hv
  split at hv
  ·rename_i r hr
   cases hv;have ho:=cS hr;cases h with
   | arr _ _ _ u h0 ha hrow =>
    rcases hrow _ ho rfl with ⟨rfl,p,cap,rfl,hc⟩ | ⟨b,cap,rfl,hn,hc,hb⟩
    ·rw [Nat.zero_mul,List.take_zero]
     exact .p _ _ (.sl 0 [] p cap (fun _=>undef) (Nat.zero_le _) hc (fun i h=>by simp at h) (fun i h=>by simp at h) (fun i h=>by simp at h))
    ·rcases hM.row _ _ _ _ ho with ⟨Ee,_⟩ | ⟨b',arr,inf,Al,q1,q2,q3,q4,q5,q6,q7,q8⟩
     ·rw [hb] at Ee;cases Ee
     ·rw [hb] at Al;cases Al
      have hle:r.2.2.length≤arr.size:=by rw [q3,q4];exact Nat.mul_le_mul_right _ q5
      have hlt:∀ i,i<((r.2.2.drop off).take (n*(r.2.2.length / r.2.1))).length→off+i<r.2.2.length:=fun i hi=>by simp at hi;omega
      refine .p _ _ (.sl n _ _ cap (fun j=>arr.getD (off+j) undef) hn hc (fun i hi=>⟨b,off,rfl,hO _ _ b ho rfl hb,bJ q1 (by have:=hlt i hi;omega)⟩) (fun i hi => ?_) (fun i hi=>q8 _ (hlt i hi)))
      simp only [List.getElem_take,List.getElem_drop];exact (q7 _ (hlt i hi)).mono hG (fun _ _=>rfl)
  ·cases hv
 | .tup _,_,_,_,hv=>by simp [view] at hv
 | .mp _,_,_,_,hv=>by simp [view] at hv
 | .pa _ _,_,_,_,hv=>by simp [view] at hv
theorem kG:∀ {l:List AV} {us:Nat→Value} {ys:List AV},(∀ i (h:i<l.length),Rep C M w l[i] (us i))→mD M l=some ys→ys.length=l.length∧∀ i (h:i<ys.length),Rep (C.bare G) [] w ys[i] (us i)
 | [],_,ys,_,hv=>by simp only [mD] at hv;cases hv;exact ⟨rfl,fun i h=>by simp at h⟩
 | x::r,us,ys,h,hv=>by
  simp only [mD] at hv
  split at hv
  ·rename_i y h1
   split at hv
   ·rename_i l h2
    cases hv;obtain ⟨q1,q2⟩:=kG (us:=fun i=>us (i+1)) (fun i hi=>h (i+1) (by simpa using hi)) h2
    refine ⟨by simp [q1],fun i hi => ?_⟩
    cases i with
    | zero=>exact sS (h 0 (by simp)) h1
    | succ i=>exact q2 i (by simpa using hi)
   ·cases hv
  ·cases hv
end
end
end
section
variable {P:Program} {T:TT} {E:Env} {C C':Cx} {M M1:Mem} {w w':World}

def Cx.after(C:Cx)(w w':World)(kb:Option Nat):Cx:={ ι:=C.ι,κ:=C.κ,F:=fun b=>C.F b∨(w.heap.size≤b∧b<w'.heap.size∧kb≠some b) }

theorem aIl(hM:aP P C M w){kb:Option Nat}(ho:w'.os=w.os)(ht:w'.tape=w.tape)(hu:w'.output=w.output)(hs:w.heap.size≤w'.heap.size)(hk:∀ b,b<w.heap.size→w'.heap[b]? = w.heap[b]?):Fr C M w (C.after w w' kb) M w'∧aP P (C.after w w' kb) M w':=by
 have hf:Fr C M w (C.after w w' kb) M w':=⟨ho,ht,hu,hs,fun b hb _=>hk b hb,fun _ x h=>⟨⟨x,h⟩,rfl,rfl⟩,fun _ _ _ _ _ cs h=>⟨cs,h⟩,fun _ o h o' h' hl=>by rw [h] at h';cases h';exact hl,
  fun i x _ h hl hb => .inr ⟨i,x,h,hl,hb⟩,fun _ h => .inl h,fun b h=>by rcases h with h | ⟨h,_⟩;exact .inl h;exact .inr (.inl h)⟩
 have hL:=hM.le hf;refine ⟨hf,fun i Cn n cs hm => ?_,fun i Cn cs hm => ?_,fun i es cl hm => ?_,hM.inj,fun i x b hm hl hb => ?_,fun b hb => ?_,fun i x b hm hl hb=>Cg (hM.lt i x b hm hl hb) hs⟩
 ·rcases hM.row _ _ _ _ hm with h4 | ⟨b,arr,inf,q0,q1,q2,q3,q4,q5,q6,q7,q8⟩
  ·exact .inl h4
  ·exact .inr ⟨b,arr,inf,q0,(hk b (hM.lt _ _ _ hm rfl q0)).trans q1,q2,q3,q4,q5,q6,fun j hj=>(q7 j hj).mono hL.F hL.fz,q8⟩
 ·obtain ⟨b,arr,q0,q1,q2,q3,q4⟩:=hM.box _ _ _ hm
  exact ⟨b,arr,q0,(hk b (hM.lt _ _ _ hm rfl q0)).trans q1,q2,fun j hj=>(q3 j hj).mono hL,q4⟩
 ·obtain ⟨b,arr,q0,q1,q2,q3⟩:=hM.mp _ _ _ hm
  refine ⟨b,arr,q0,(hk b (hM.lt _ _ _ hm rfl q0)).trans q1,q2,fun j hj => ?_⟩
  obtain ⟨en,r1,r2,r3,r4⟩:=q3 j hj;exact ⟨en,r1,r2,r3,r4.mono hL.F hL.fz⟩
 ·rintro (h | ⟨h,_⟩)
  ·exact hM.nF i x b hm hl hb h
  ·have:=hM.lt i x b hm hl hb
   omega
 ·rcases hb with h | ⟨_,h,_⟩
  ·exact Cg (hM.Fs b h) hs
  ·exact h

theorem bBu{C1:Cx}(hM:aP P C1 M w'){base b k ty n:Nat}{cs:List PV}(hf:yI M base)(hnF:¬ C1.F b)(hold:∀ (i:Nat) (x:AO) (j:Nat),M[i]? = some (some x)→x.live=true→C1.ι i=some j→j<b)(hb:b<w'.heap.size)
  (hrow:∃ arr i,w'.heap[b]? = some (.cells arr ty (0,0))∧P.info? ty=some i∧arr.size=k*i.size∧cs.length=n*i.size∧n≤k∧k≤maxLen∧(∀ j (h:j<cs.length),cB C1.F w' cs[j] (arr.getD j undef))∧∀ j,j<cs.length→(arr.getD j undef).oneCell'=true) :
  aP P (C1.grow base b k) (aU M base (some (.row ty n cs))) w'∧Le C1 (C1.grow base b k) M (aU M base (some (.row ty n cs))) w' w':=by
 have hne:∀ (i:Nat) (x:AO),M[i]? = some (some x)→i≠base:=fun i x h e=>hf x (e ▸ h)
 have hL:Le C1 (C1.grow base b k) M (aU M base (some (.row ty n cs))) w' w':=by
  refine ⟨fun i x h=>⟨x,(aO M base i _ x (fun e=>hne i x h e.symm)).2 h⟩,fun i x h ty n cs hm=>⟨cs,(aO M base i _ _ (fun e=>hne i x h e.symm)).1 hm⟩,fun i x h o' hm hl => ?_,fun _ h=>h,fun _ _=>rfl⟩
  have h4:=(aO M base i _ _ (fun e=>hne i x h e.symm)).1 hm
  rw [h] at h4;cases h4
  exact ⟨hl,by simp [Cx.grow,hne i x h],by simp [Cx.grow,hne i x h]⟩
 have Dk:∀ (i:Nat) (x:AO),i≠base→(aU M base (some (.row ty n cs)))[i]? = some (some x)→M[i]? = some (some x):=fun i x h=>(aO M base i _ x (fun e=>h e.symm)).1
 have hnew:∀ (x:AO),(aU M base (some (.row ty n cs)))[base]? = some (some x)→x = .row ty n cs:=fun x h=>by rw [aT] at h;cases h;rfl
 have hι:∀ i,i≠base→(C1.grow base b k).ι i=C1.ι i:=fun i h=>by simp [Cx.grow,h]
 have hκ:∀ i,i≠base→(C1.grow base b k).κ i=C1.κ i:=fun i h=>by simp [Cx.grow,h]
 have hιs:(C1.grow base b k).ι base=some b:=by simp [Cx.grow]
 have hκs:(C1.grow base b k).κ base=k:=by simp [Cx.grow]
 refine ⟨⟨fun i Cn n' Bh hm => ?_,fun i Cn Bh hm => ?_,fun i es cl hm => ?_,fun i i' o1 o2 j hm hl Cu Dj Ci Ed => ?_,fun i x j hm hl hj => ?_,fun j hj=>hM.Fs j hj,fun i x j hm hl hj => ?_⟩,hL⟩
 ·by_cases e:i=base
  ·subst e
   cases hnew _ hm;obtain ⟨arr,inf,q0,q1,q2,q3,q4,q5,q6,q7⟩:=hrow;exact .inr ⟨b,arr,inf,hιs,q0,q1,by rw [hκs];exact q2,q3,by rw [hκs];exact q4,by rw [hκs];exact q5,q6,q7⟩
  ·rw [hι i e,hκ i e]
   rcases hM.row _ _ _ _ (Dk i _ e hm) with h4 | ⟨j,arr,inf,q0,q1,q2,q3,q4,q5,q6,q7,q8⟩
   ·exact .inl h4
   ·exact .inr ⟨j,arr,inf,q0,q1,q2,q3,q4,q5,q6,q7,q8⟩
 ·by_cases e:i=base
  ·subst e;cases hnew _ hm
  ·rw [hι i e]
   obtain ⟨j,arr,q0,q1,q2,q3,q4⟩:=hM.box _ _ _ (Dk i _ e hm);exact ⟨j,arr,q0,q1,q2,fun j hj=>(q3 j hj).mono hL,q4⟩
 ·by_cases e:i=base
  ·subst e;cases hnew _ hm
  ·rw [hι i e]
   obtain ⟨j,arr,q0,q1,q2,q3⟩:=hM.mp _ _ _ (Dk i _ e hm);refine ⟨j,arr,q0,q1,q2,fun j hj => ?_⟩
   obtain ⟨en,r1,r2,r3,r4⟩:=q3 j hj;exact ⟨en,r1,r2,r3,r4.mono hL.F hL.fz⟩
 ·by_cases e:i=base
  ·by_cases e':i'=base
   ·rw [e,e']
   ·subst e
    rw [hιs] at Ci;cases Ci
    rw [hι i' e'] at Ed
    have:=hold i' _ _ (Dk i' _ e' Cu) Dj Ed;omega
  ·by_cases e':i'=base
   ·subst e'
    rw [hιs] at Ed;cases Ed
    rw [hι i e] at Ci
    have:=hold i _ _ (Dk i _ e hm) hl Ci;omega
   ·rw [hι i e] at Ci;rw [hι i' e'] at Ed
    exact hM.inj _ _ _ _ _ (Dk i _ e hm) hl (Dk i' _ e' Cu) Dj Ci Ed
 ·by_cases e:i=base
  ·subst e;rw [hιs] at hj;cases hj;exact hnF
  ·rw [hι i e] at hj;exact hM.nF _ _ _ (Dk i _ e hm) hl hj
 ·by_cases e:i=base
  ·subst e;rw [hιs] at hj;cases hj;exact hb
  ·rw [hι i e] at hj;exact hM.lt _ _ _ (Dk i _ e hm) hl hj
end
section
variable {P:Program} {T:TT} {E:Env} {C C':Cx} {M M1:Mem} {w w':World}

def aQx:List AV→Option Nat
 | []=>none
 | .own id::_=>some id
 | _::r=>aQx r
def bBs:AV→Option Nat
 | .own id=>some id
 | .tup l=>aQx l
 | _=>none
def aTm(m:Mem)(base k:Nat)(x:AV):Option AV:=match x with
 | .own id=>match Nat.beq id k with
  | true=>some (.own base)
  | false=>view m (.own id)
 | x=>view m x
def aQy(m:Mem)(base k:Nat):List AV→Option (List AV)
 | []=>some []
 | x::r=>match aTm m base k x with
  | some y=>match aQy m base k r with
   | some l=>some (y::l)
   | none=>none
  | none=>none
def bBt(m:Mem)(base k:Nat):AV→Option AV
 | .tup l=>match aQy m base k l with
  | some ys=>some (.tup ys)
  | none=>none
 | x=>aTm m base k x
def aTn(m:Mem)(base:Nat)(r:AV):Option (AV × Upd):=match bBs r with
 | some k=>match eQ m k with
  | some q=>match bBt (upds m [(k,.dead)]) base k r with
   | some y=>some (y,[(base,.row q.1 q.2.1 q.2.2)])
   | none=>none
  | none=>none
 | none=>match bBt m base m.length r with
  | some y=>some (y,[])
  | none=>none

def aTo:AV→Bool
 | .own _=>true
 | x=>rig x
def zH:List AV→Bool
 | []=>true
 | x::r=>match aTo x with
  | true=>zH r
  | false=>false
def aTp:AV→Bool
 | .tup l=>zH l
 | x=>aTo x
def aTq:Upd→Bool
 | []=>true
 | (_,.row _ _ cs)::r=>match aDk cs with
  | true=>aTq r
  | false=>false
 | _=>false
theorem aIi:∀ {l:List AV},zH l=true→∀ i (h:i<l.length),aTo l[i]=true
 | [],_,i,h=>by simp at h
 | x::r,hr,i,h=>by
  unfold zH at hr
  split at hr
  ·cases i with
   | zero=>assumption
   | succ i=>exact aIi hr i (by simpa using h)
  ·cases hr

theorem aIj{cs l:List AV}(h:iZ cs = .tup l):False:=by
 unfold iZ at h;split at h <;> cases h
theorem aIk{m:Mem}{x:AV}{l:List AV}(h:view m x=some (.tup l)):False:=by
 cases x with
 | agg cs =>
  simp only [view] at h
  split at h
  ·injection h with h;exact aIj h
  ·cases h
 | fn f a b =>
  simp only [view] at h
  split at h
  ·split at h <;> cases h
  ·cases h
 | ptr id off =>
  simp only [view] at h
  split at h
  ·cases h
  ·split at h <;> cases h
  ·cases h
 | own id=>simp only [view] at h;split at h <;> cases h
 | arr id off n=>simp only [view] at h;split at h <;> cases h
 | _=>simp [view] at h

theorem zI{C2:Cx}{M2:Mem}{m:Mem}{Ck:Cx}{base k:Nat}{A:Prop}(hM:aP P Ck m w')
  (hA:A→(∀ b,Ck.F b→C2.F b)∧∀ (id:Nat) (o:AO) (b:Nat),m[id]? = some (some o)→o.live=true→Ck.ι id=some b→C2.F b)
  (hk:∀ u,Rep C' M1 w' (.own k) u→Rep C2 M2 w' (.own base) u) (hL:Le C' Ck M1 m w' w') {x y:AV} {u:Value} (h:Rep C' M1 w' x u) (hx:aTm m base k x=some y) (hr:A∨aTo y=true):Rep C2 M2 w' y u:=by
 have sv:∀ {x y:AV} {u:Value},Rep C' M1 w' x u→view m x=some y→(A∨aTo y=true)→Rep C2 M2 w' y u:=fun {x y u} h hv hr=>by
  rcases hr with hr | hr
  ·obtain ⟨h1,h2⟩:=hA hr
   have:=sS hM h1 h2 (h.mono hL) hv;have hle:Le (Ck.bare C2.F) C2 [] M2 w' w':=⟨fun _ _ h=>by simp at h,fun _ _ h=>by simp at h,fun _ _ h=>by simp at h,fun _ h=>h,fun _ _=>rfl⟩
   exact this.mono hle
  ·have:=sS (G:=fun b=>Ck.F b∨∃ (id:Nat) (o:AO),m[id]? = some (some o)∧o.live=true∧Ck.ι id=some b) hM (fun _ h => .inl h) (fun id o b h1 h2 h3 => .inr ⟨id,o,h1,h2,h3⟩) (h.mono hL) hv
   cases y with
   | own id=>cases this with | own _ _ _ ha _=>obtain ⟨o,ho⟩:=ha;simp at ho
   | _=>exact this.rig hr
 unfold aTm at hx
 split at hx
 ·rename_i id
  split at hx
  ·rename_i hb
   cases hx;have:=Nat.eq_of_beq_eq_true hb;subst this;exact hk u h
  ·exact sv h hx hr
 ·exact sv h hx hr

theorem xE{C2:Cx}{M2:Mem}{m:Mem}{Ck:Cx}{base k:Nat}{A:Prop}(hM:aP P Ck m w')
  (hA:A→(∀ b,Ck.F b→C2.F b)∧∀ (id:Nat) (o:AO) (b:Nat),m[id]? = some (some o)→o.live=true→Ck.ι id=some b→C2.F b)
  (hk:∀ u,Rep C' M1 w' (.own k) u→Rep C2 M2 w' (.own base) u) (hL:Le C' Ck M1 m w' w'):∀ {l ys:List AV} {us:Nat→Value},(∀ i (h:i<l.length),Rep C' M1 w' l[i] (us i))→aQy m base k l=some ys→(A∨zH ys=true) →
   ys.length=l.length∧∀ i (h:i<ys.length),Rep C2 M2 w' ys[i] (us i)
 | [],ys,us,_,hx,_=>by cases hx;exact ⟨rfl,fun i h=>by simp at h⟩
 | x::r,ys,us,h,hx,hr=>by
  unfold aQy at hx
  split at hx
  ·rename_i y h1
   split at hx
   ·rename_i l h2
    cases hx;have Gw:A∨aTo y=true:=hr.imp id fun hr=>aIi (l:=y::l) hr 0 (by simp)
    have Fp:A∨zH l=true:=hr.imp id fun hr=>by
     unfold zH at hr
     split at hr
     ·exact hr
     ·cases hr
    obtain ⟨q1,q2⟩:=xE hM hA hk hL (us:=fun i=>us (i+1)) (fun i hi=>h (i+1) (by simpa using hi)) h2 Fp
    refine ⟨by simp [q1],fun i hi => ?_⟩
    cases i with
    | zero=>exact zI hM hA hk hL (h 0 (by simp)) h1 Gw
    | succ i=>exact q2 i (by simpa using hi)
   ·cases hx
  ·cases hx

theorem sR{C2:Cx}{M2:Mem}{m:Mem}{Ck:Cx}{base k:Nat}{A:Prop}(hM:aP P Ck m w')
  (hA:A→(∀ b,Ck.F b→C2.F b)∧∀ (id:Nat) (o:AO) (b:Nat),m[id]? = some (some o)→o.live=true→Ck.ι id=some b→C2.F b)
  (hk:∀ u,Rep C' M1 w' (.own k) u→Rep C2 M2 w' (.own base) u) (hL:Le C' Ck M1 m w' w') {x y:AV} {u:Value} (h:Rep C' M1 w' x u) (hx:bBt m base k x=some y) (hr:A∨aTp y=true):Rep C2 M2 w' y u:=by
 unfold bBt at hx
 split at hx
 ·rename_i l
  split at hx
  ·rename_i ys hy
   cases hx;cases h with
   | tup _ vs h1 h2 =>
    obtain ⟨q1,q2⟩:=xE hM hA hk hL (us:=fun i=>vs.getD i undef) h2 hy hr
    exact .tup _ _ (by omega) q2
  ·cases hx
 ·rename_i hn
  refine zI hM hA hk hL h hx (hr.imp id fun hr => ?_)
  unfold aTp at hr
  split at hr
  ·exfalso
   unfold aTm at hx
   split at hx
   ·split at hx
    ·cases hx
    ·exact aIk hx
   ·exact aIk hx
  ·exact hr

theorem vV{f:Nat}{args Am:List AV}{r y:AV}{L:Upd}{base:Nat}(hm:iR args=true∧Am=args∨mD M args=some Am∧aTp y=true∧aTq L=true)(hb:eL M base=true)
  (ho:aTn M1 base r=some (y,L)) (h:FMM P f Am [] r M1):FM P f args M y L:=by
 intro C w us hus hM n;obtain ⟨G,hG,hGs,hA,N7⟩:∃ G:Nat→Prop,(∀ b,C.F b→G b)∧(∀ b,G b→b<w.heap.size)∧((∀ b,G b→C.F b)∨aTp y=true∧aTq L=true)∧cN (C.bare G) [] w Am us:=by
  rcases hm with ⟨hn,rfl⟩ | ⟨hv,Gw,Fp⟩
  ·refine ⟨C.F,fun _ h=>h,hM.Fs,.inl fun _ h=>h,?_⟩
   have:∀ {l:List AV} {us:List Value},iR l=true→cN C M w l us→cN (C.bare C.F) [] w l us:=by
    intro l
    induction l with
    | nil=>intro us _ h;cases h;exact .nil
    | cons x l ih =>
     intro us hn h;cases h with
     | cons _ u _ k hx hr =>
      have h0:=nH hn 0 (by simp)
      unfold iR at hn
      split at hn
      ·exact .cons _ _ _ _ (hx.noRef h0 (fun _ h=>h) (fun _ _=>rfl)) (ih hn hr)
      ·cases hn
   exact this hn hus
  ·refine ⟨fun b=>C.F b∨∃ (id:Nat) (o:AO),M[id]? = some (some o)∧o.live=true∧C.ι id=some b,fun _ h => .inl h,fun b h => ?_,.inr ⟨Gw,Fp⟩,?_⟩
   ·rcases h with h | ⟨id,o,h1,h2,h3⟩
    ·exact hM.Fs b h
    ·exact hM.lt id o b h1 h2 h3
   ·obtain ⟨q1,q2⟩:=kG (G:=fun b=>C.F b∨∃ (id:Nat) (o:AO),M[id]? = some (some o)∧o.live=true∧C.ι id=some b) hM (fun _ h => .inl h) (fun id o b h1 h2 h3 => .inr ⟨id,o,h1,h2,h3⟩) (us:=fun i=>us.getD i undef) (fun i hi=>hus.at i hi) hv
    have:=cN.ofArr (l:=Am) (us:=us.toArray) (by simp [hus.len,q1]) (fun i hi=>by rw [bN];exact q2 i hi)
    exact this
 have Cc:aP P (C.bare G) [] w:=⟨fun _ _ _ _ h=>by simp at h,fun _ _ _ h=>by simp at h,fun _ _ _ h=>by simp at h,fun _ _ _ _ _ h=>by simp at h,fun _ _ _ h=>by simp at h,hGs,fun _ _ _ h=>by simp at h⟩
 refine (h (C.bare G) w us N7 Cc n).mono ?_;rintro e w' ⟨u,rfl,C',hF,Bp,hr⟩;refine ⟨u,rfl,?_⟩;have hkeep:∀ b,b<w.heap.size→w'.heap[b]? = w.heap[b]? := fun b hb=>hF.keep b hb (fun id o h=>by simp at h)
 have hnew:∀ (id:Nat) (o:AO) (b:Nat),M1[id]? = some (some o)→o.live=true→C'.ι id=some b→w.heap.size≤b:=fun id o b h1 h2 h3=>by
  rcases hF.new id o b h1 h2 h3 with h4 | ⟨_,_,h4,_⟩
  ·exact h4
  ·simp at h4
 have Fq:∀ b,C'.F b→G b∨w.heap.size≤b:=fun b hb=>by
  rcases hF.F2 b hb with h4 | h4 | ⟨_,_,h4,_⟩
  ·exact .inl h4
  ·exact .inr h4
  ·simp at h4
 have hfree:=cC hb;unfold aTn at ho
 split at ho
 ·rename_i k hk
  split at ho
  ·rename_i q hq
   split at ho
   ·rename_i y' hy
    cases ho;have hok:=cS hq;have hmk:=nP Bp (id:=k) false hok rfl;have hlk:=Bp.le (cP (C:=C') (w:=w') (id:=k) false hok rfl);obtain ⟨f1,m1⟩:=aIl (C:=C) (M:=M) (w:=w) (w':=w') (kb:=C'.ι k) hM hF.os hF.tape hF.out hF.size hkeep;have hAA:(∀ b,G b→C.F b)→(∀ b,(C'.close k false).F b→(C.after w w' (C'.ι k)).F b)∧∀ (id:Nat) (o:AO) (b:Nat),(upds M1 [(k,.dead)])[id]? = some (some o)→o.live=true→(C'.close k false).ι id=some b→(C.after w w' (C'.ι k)).F b:=by
     intro hGC;refine ⟨fun b hb => ?_,fun id o b h1 h2 h3 => ?_⟩
     ·have Al:C'.F b:=by rcases hb with hb | ⟨hb,_⟩;exact hb;cases hb
      rcases Fq b Al with h4 | h4
      ·exact .inl (hGC b h4)
      ·exact .inr ⟨h4,Bp.Fs b Al,fun e=>Bp.nF _ _ _ hok rfl e Al⟩
     ·simp only [upds] at h1
      have hne:k≠id:=fun e=>by subst e;rw [aT] at h1;cases h1;cases h2
      have Hj:=(aO M1 k id _ _ hne).1 h1;exact .inr ⟨hnew id o b Hj h2 h3,Bp.lt id o b Hj h2 h3,fun e=>hne (Bp.inj _ _ _ _ _ hok rfl Hj h2 e h3)⟩
    cases hkb:C'.ι k with
    | none =>
     rw [hkb] at hAA f1 m1
     obtain ⟨hz,hcs⟩:q.2.1=0∧q.2.2=[]:=by
      rcases Bp.row _ _ _ _ hok with ⟨_,hz,hcs⟩ | ⟨b,_,_,hb,_⟩
      ·exact ⟨hz,hcs⟩
      ·rw [hkb] at hb;cases hb
     rw [hz,hcs];have m2:=uU (ty:=q.1) m1 hfree;have f2:=uT (ty:=q.1) (C:=C.after w w' none) (w:=w') hfree;have hle:=m1.le f2;refine ⟨_,f1.trans f2,m2,?_⟩;refine sR (C2:=(C.after w w' none).nil base) (M2:=upds M [(base,.row q.1 0 [])]) (A:=∀ b,G b→C.F b) hmk (fun h=>⟨fun b hb=>(hAA h).1 b hb,fun id o b h1 h2 h3=>(hAA h).2 id o b h1 h2 h3⟩) (fun v hv => ?_) hlk hr hy (hA.imp id (·.1))
     cases hv with
     | own _ _ h0 ha hrow =>
      rcases hrow _ _ _ hok with ⟨rfl,_,_⟩ | ⟨b,_,hb⟩
      ·exact .own base _ rfl ⟨_,aT ..⟩ (fun ty n cs h=>by simp only [upds] at h;rw [aT] at h;cases h;exact .inl ⟨rfl,by simp [Cx.nil],rfl⟩)
      ·rw [hkb] at hb;cases hb
    | some b =>
     rw [hkb] at hAA f1 m1
     rcases Bp.row _ _ _ _ hok with ⟨hn,_⟩ | ⟨b',arr,inf,Al,q1,q2,q3,q4,q5,q6,q7,q8⟩
     ·rw [hkb] at hn;cases hn
     rw [hkb] at Al;cases Al
     have hbn:=hnew k _ b hok rfl hkb;have hbl:=Bp.lt k _ b hok rfl hkb;have hcell:∀ j (h:j<q.2.2.length),cB (C.after w w' (some b)).F w' q.2.2[j] (arr.getD j undef):=fun j hj=>by
      rcases hA with hGC | ⟨_,Fp⟩
      ·exact (q7 j hj).mono (fun b hb=>(hAA hGC).1 b (.inl hb)) (fun _ _=>rfl)
      ·simp only [aTq] at Fp
       split at Fp
       ·rename_i hcs
        exact (q7 j hj).rig (zJ hcs j hj)
       ·cases Fp
     obtain ⟨m2,Ct⟩:=bBu (base:=base) (b:=b) (k:=C'.κ k) (ty:=q.1) (n:=q.2.1) (cs:=q.2.2) m1 hfree (fun hF=>by
      rcases hF with hF | ⟨_,_,hF⟩
      ·have:=hM.Fs b hF;omega
      ·exact hF rfl) (fun i x j h1 h2 h3=>by have:=hM.lt i x j h1 h2 h3;omega) hbl ⟨arr,inf,q1,q2,q3,q4,q5,q6,hcell,q8⟩
     refine ⟨_,?_,m2,?_⟩
     ·have hne:∀ (i:Nat) (x:AO),M[i]? = some (some x)→i≠base:=fun i x h e=>hfree x (e ▸ h)
      refine ⟨f1.os,f1.tape,f1.out,f1.size,f1.keep,fun i x h=>⟨Ct.ids i x h,by simp [Cx.grow,Cx.after,hne i x h],by simp [Cx.grow,Cx.after,hne i x h]⟩,Ct.row,fun i x h o' h1 h2=>(Ct.liv i x h o' h1 h2).1,fun i x j h1 h2 h3 => ?_,f1.F1,f1.F2⟩
      by_cases e:i=base
      ·subst e
       simp only [Cx.grow,if_true] at h3
       cases h3;exact .inl hbn
      ·simp only [Cx.grow,e,if_false] at h3
       exact f1.new i x j ((aO M base i _ _ (fun e'=>e e'.symm)).1 h1) h2 h3
     ·refine sR (C2:=(C.after w w' (some b)).grow base b (C'.κ k)) (M2:=upds M [(base,.row q.1 q.2.1 q.2.2)]) (A:=∀ b,G b→C.F b) hmk (fun h=>⟨fun b hb=>(hAA h).1 b hb,fun id o b h1 h2 h3=>(hAA h).2 id o b h1 h2 h3⟩) (fun v hv => ?_) hlk hr hy (hA.imp id (·.1))
      cases hv with
      | own _ _ h0 ha hrow =>
       rcases hrow _ _ _ hok with ⟨_,hn,_⟩ | ⟨b',rfl,hb⟩
       ·rw [hkb] at hn;cases hn
       ·rw [hkb] at hb;cases hb
        exact .own base _ rfl ⟨_,aT ..⟩ (fun ty n cs h=>by simp only [upds] at h;rw [aT] at h;cases h;exact .inr ⟨b,by simp [Cx.grow],by simp [Cx.grow]⟩)
   ·cases ho
  ·cases ho
 ·rename_i hk
  split at ho
  ·rename_i y' hy
   cases ho;obtain ⟨f1,m1⟩:=aIl (C:=C) (M:=M) (w:=w) (w':=w') (kb:=none) hM hF.os hF.tape hF.out hF.size hkeep;refine ⟨_,f1,m1,?_⟩;refine sR (C2:=C.after w w' none) (M2:=upds M []) (A:=∀ b,G b→C.F b) Bp (fun hGC=>⟨fun b hb => ?_,fun id o b h1 h2 h3 => .inr ⟨hnew id o b h1 h2 h3,Bp.lt id o b h1 h2 h3,nofun⟩⟩) (fun v hv => ?_) ⟨fun i o h=>⟨o,h⟩,fun _ _ _ _ _ cs h=>⟨cs,h⟩,fun _ o h o' h' hl=>by rw [h] at h';cases h';exact ⟨hl,rfl,rfl⟩,fun _ h=>h,fun _ _=>rfl⟩ hr hy (hA.imp id (·.1))
   ·rcases Fq b hb with h4 | h4
    ·exact .inl (hGC b h4)
    ·exact .inr ⟨h4,Bp.Fs b hb,nofun⟩
   ·cases hv with
    | own _ _ h0 ha hrow =>
     obtain ⟨o,ho⟩:=ha;rw [List.getElem?_eq_none (dH _)] at ho
     cases ho
  ·cases ho
end
section
variable {P:Program} {T:TT} {E:Env} {C C':Cx} {M M1 M2:Mem} {w w':World}

def s0:AS:={ auto:=true,o:=[],obs:=[] }

end
section
variable {P:Program} {T:TT} {E:Env} {C C0:Cx} {M M0:Mem} {w w0:World}

def aG(P:Program)(k:Nat)(b:Code)(st:St)(e:Ex)(Ah:St):Prop:=∀ (C0:Cx) (M0:Mem) (w0:World) (a:Act) (w:World),M0.length≤k→Sim P C0 M0 w0 st a w→∀ (ro:Option Nat),kM ro b→∀ (n:Nat),LoopIn (Fen ro) n P b (fun e' a' w'=>e'=e.toExit∧Sim P C0 M0 w0 Ah a' w') a w

section
variable {k:Nat} {b:Code} {st st1 Ah:St} {e:Ex}
theorem aG.step(h:aC P k b st .normal st1)(hr:aG P k b st1 e Ah):aG P k b st e Ah:=fun C0 M0 w0 a w hk hs ro hro n=>LoopIn.step (wpIn_mono (h C0 M0 w0 a w hk hs ro hro n) fun e' a' w' hq=>by
 obtain ⟨rfl,B1⟩:=hq;exact hr C0 M0 w0 a' w' hk B1 ro hro n)
theorem aG.exit(h:aC P k b st e Ah)(he:e ≠ .normal):aG P k b st e Ah:=fun C0 M0 w0 a w hk hs ro hro n=>LoopIn.step (wpIn_mono (h C0 M0 w0 a w hk hs ro hro n) fun e' a' w' hq=>by
 obtain ⟨rfl,B1⟩:=hq;cases e with
 | normal=>exact absurd rfl he
 | ret=>exact ⟨rfl,B1⟩
 | exit id=>exact ⟨rfl,B1⟩)
theorem aG.code(h:aG P k b st e Ah):aC P k (.loop b) st e Ah:=fun C0 M0 w0 a w hk hs ro hro n=>LoopIn.wp (h C0 M0 w0 a w hk hs ro hro.loop n)
theorem aG.range{α β:Type}(S:Nat→β→St)(R:β→St)(f:β→α→β)(Inv:Nat→β→Prop)(he:e ≠ .normal)(l:List α){a0:β}(h0:Inv 0 a0)
  (hs:∀ (i:Nat) (x:α) (acc:β),l[i]? = some x→Inv i acc→Inv (i+1) (f acc x)∧aC P k b (S i acc) .normal (S (i+1) (f acc x)))
  (hx:∀ acc,Inv l.length acc→aC P k b (S l.length acc) e (R acc)):aG P k b (S 0 a0) e (R (l.foldl f a0)):=by
 have key:∀ (r:List α) (i:Nat) (acc:β),l.drop i=r→i≤l.length→Inv i acc→aG P k b (S i acc) e (R (r.foldl f acc)):=by
  intro r
  induction r with
  | nil =>
   intro i acc hd hi hI;have:i=l.length:=by have:=congrArg List.length hd;simp at this;omega
   subst this;exact .exit (hx _ hI) he
  | cons x r ih =>
   intro i acc hd hi hI;have hl:l[i]? = some x:=by
    have:=congrArg (·[0]?) hd
    simpa using this
   obtain ⟨h1,h2⟩:=hs i x acc hl hI;have hlt:i<l.length:=(Bc.1 hl).1;refine .step h2 (ih (i+1) _ ?_ (by omega) h1)
   have:=congrArg List.tail hd;simpa [List.tail_drop] using this
 exact key l 0 a0 (by simp) (Nat.zero_le _) h0

end

def FV(P:Program)(f:Nat)(args:List AV)(base:Nat)(y:AV)(L:Upd):Prop:=∃ r M1,FMM P f args [] r M1∧aTn M1 base r=some (y,L)

theorem FV.fc{f base:Nat}{args:List AV}{y:AV}{L:Upd}{bs:List (Nat × AO)}(h:FV P f args base y L)(hn:iR args=true):FC P f args bs base y L:=fun M _ hb _=>by
 obtain ⟨r,M1,h1,h2⟩:=h;exact vV (.inl ⟨hn,rfl⟩) hb h2 h1

def aLw(m M:Mem):Prop:=∀ (id:Nat) (o:AO),bH m id=some o→bH M id=some o
section
variable {m:Mem}
theorem aFp(hs:aLw m M){id:Nat}{r:Nat × Nat × List PV}(h:eQ m id=some r):eQ M id=some r:=by
 have:=aZ.2 (cS h);unfold eQ;rw [hs _ _ this]
theorem aTl(hs:aLw m M){x:AV}{y:PV}(h:D3 m x=some y):D3 M x=some y:=by
 unfold D3 at h ⊢
 split at h
 ·exact h
 ·exact h
 ·split at h
  ·rename_i hr
   rw [aFp hs hr];exact h
  ·cases h
 ·cases h
theorem aDj(hs:aLw m M):∀ {l:List AV} {ys:List PV},aAf m l=some ys→aAf M l=some ys
 | [],_,h=>h
 | x::r,ys,h=>by
  unfold aAf at h ⊢
  split at h
  ·rename_i h1
   split at h
   ·rename_i h2
    rw [aTl hs h1,aDj hs h2];exact h
   ·cases h
  ·cases h
mutual
theorem bBr(hs:aLw m M):∀ {x y:AV},view m x=some y→view M x=some y
 | .p x,y,h=>by simp only [view] at h ⊢;exact h
 | .kb b,y,h=>by simp only [view] at h ⊢;exact h
 | .any,y,h=>by simp only [view] at h ⊢;exact h
 | .yld l,y,h=>by simp only [view] at h ⊢;exact h
 | .rp cs o,y,h=>by simp only [view] at h ⊢;exact h
 | .own id,y,h=>by
  simp only [view] at h ⊢
  split at h
  ·rename_i hr
   rw [aFp hs hr];exact h
  ·cases h
 | .arr id off n,y,h=>by
  simp only [view] at h ⊢
  split at h
  ·rename_i hr
   rw [aFp hs hr];exact h
  ·cases h
 | .ptr id off,y,h=>by
  simp only [view] at h ⊢
  split at h
  ·rename_i hr
   rw [hs _ _ hr];exact h
  ·rename_i hr
   rw [hs _ _ hr]
   split at h
   ·rename_i hc
    simp only [aDj hs hc];exact h
   ·cases h
  ·cases h
 | .agg l,y,h=>by
  simp only [view] at h ⊢
  split at h
  ·rename_i hr
   rw [nG hs hr];exact h
  ·cases h
 | .fn f a b,y,h=>by
  simp only [view] at h ⊢
  split at h
  ·rename_i ha
   split at h
   ·rename_i hb
    rw [nG hs ha,nG hs hb];exact h
   ·cases h
  ·cases h
 | .tup l,y,h=>by simp [view] at h
 | .mp i,y,h=>by simp [view] at h
theorem nG(hs:aLw m M):∀ {l ys:List AV},mD m l=some ys→mD M l=some ys
 | [],_,h=>by simp only [mD] at h ⊢;exact h
 | x::r,ys,h=>by
  simp only [mD] at h ⊢
  split at h
  ·rename_i h1
   split at h
   ·rename_i h2
    rw [bBr hs h1,nG hs h2];exact h
   ·cases h
  ·cases h
end
end
theorem pN:∀ (bs:Upd) (m:Mem) (id:Nat) (o:AO),bH (upds m bs) id=some o→(id,o)∈bs∨bH m id=some o
 | [],_,_,_,h => .inr h
 | (i,x)::r,m,id,o,h=>by
  rcases pN r _ id o h with h1 | h1
  ·exact .inl (Cj _ h1)
  ·rw [cI] at h1
   split at h1
   ·rename_i e
    subst e;cases h1;exact .inl (jQ ..)
   ·exact .inr h1
theorem FV.view{f base:Nat}{args Am:List AV}{y:AV}{L:Upd}{bs:List (Nat × AO)}(h:FV P f Am base y L)(hv:mD (upds [] bs) args=some Am)(h1:aTp y=true)(h2:aTq L=true):FC P f args bs base y L:=fun M hb hf _=>by
 obtain ⟨r,M1,h3,h4⟩:=h;refine vV (.inr ⟨nG (fun id o ho => ?_) hv,h1,h2⟩) hf h4 h3
 rcases pN bs [] id o ho with h5 | h5
 ·exact hb _ h5
 ·simp [bH] at h5
end
section
noncomputable abbrev Tp:=Tryz.prog

inductive Tr (α:Type) where
 | nil
 | node (v:Option α) (l r:Tr α)
def Tr.get{α:Type}:Tr α→Nat→Option α
 | .nil,_=>none
 | .node v l r,k=>match Nat.beq k 0 with
  | true=>v
  | false=>match Nat.beq (Nat.mod k 2) 1 with
   | true=>l.get (Nat.div k 2)
   | false=>r.get (Nat.sub (Nat.div k 2) 1)
def Tr.all{α:Type}(f:Nat→Nat):Tr α→List (Nat × α)
 | .nil=>[]
 | .node v l r=>(match v with | some x=>[(f 0,x)] | none=>[])++l.all (fun k=>f (2*k+1))++r.all (fun k=>f (2*k+2))
theorem Tr.get_all{α:Type}:∀ (t:Tr α) (f:Nat→Nat) (k:Nat) (x:α),t.get k=some x→(f k,x)∈t.all f
 | .nil,_,_,_,h=>by cases h
 | .node v l r,f,k,x,h=>by
  unfold Tr.get at h
  unfold Tr.all
  split at h
  ·rename_i hb
   have hk:=Nat.eq_of_beq_eq_true hb;subst hk;subst h;exact nR _ (nR _ (jQ ..))
  ·rename_i hb
   have hk:=Nat.ne_of_beq_eq_false hb
   split at h
   ·rename_i h1
    have h1:k % 2=1:=Nat.eq_of_beq_eq_true h1;have:=Tr.get_all l (fun k=>f (2*k+1)) _ x h
    refine nR _ (aDb _ ?_);have e:2*(k / 2)+1=k:=by omega
    have e':2*Nat.div k 2+1=k:=e;simp only [e'] at this
    exact this
   ·rename_i h1
    have h1:k % 2≠1:=Nat.ne_of_beq_eq_false h1;have:=Tr.get_all r (fun k=>f (2*k+2)) _ x h
    refine aDb _ ?_;have e:2*(k / 2-1)+2=k:=by omega
    have e':2*Nat.sub (Nat.div k 2) 1+2=k:=e;simp only [e'] at this
    exact this

abbrev tL(v:Option TI):Tr TI := .node v .nil .nil
abbrev Eo:Option TI:=some ⟨.func,1,8,[.nilFunc],true⟩
abbrev L5:Option TI:=some ⟨.int .i64,1,8,[.int .i64 0],true⟩
abbrev Ox:Option TI:=some ⟨.int .u64,1,8,[.int .u64 0],true⟩
abbrev Oy:Option TI:=some ⟨.struct [(0,3,true),(1,3,true)],2,16,[.int .i64 0,.int .i64 0],true⟩
abbrev Qv:Option TI:=some ⟨.struct [(0,3,true),(1,3,true),(2,3,true)],3,24,[.int .i64 0,.int .i64 0,.int .i64 0],true⟩
def tTr:Tr TI := .node none (.node Eo (.node L5 (.node none (.node none (.node (some ⟨.slice 3,1,24,[.slice none 0 0],true⟩) (tL Qv) .nil) (.node none .nil (tL Eo))) (.node (some ⟨.slice 80,1,24,[.slice none 0 0],true⟩) (.node none .nil (.node none (tL (some ⟨.map 3 24,1,8,[.map none],true⟩)) .nil)) (.node none .nil (.node (some ⟨.struct [(0,115,true),(1,116,true),(2,115,true),(3,117,true),(4,116,true)],5,40,.nilFunc::List.replicate 4 (.nilFunc),true⟩) (.node (some ⟨.map 3 4,1,8,[.map none],true⟩) (tL (some ⟨.ptr 3,1,8,[.pointer none],true⟩)) .nil) .nil)))) (.node none (.node none (.node none .nil (.node none .nil (tL Eo))) (.node none .nil (.node Eo (.node none (tL Ox) .nil) (tL (some ⟨.array 5 242,5,40,.nilFunc::List.replicate 4 (.nilFunc),true⟩))))) (.node none (.node none .nil (.node none (tL Eo) .nil)) .nil))) (.node (some ⟨.int .u8,1,1,[.int .u8 0],true⟩) (.node (some ⟨.str,1,16,[.string { data := #[] }],true⟩) (.node none (.node none (tL Oy) (.node none .nil (tL Eo))) .nil) (.node none (.node none .nil (.node none (tL (some ⟨.struct [(0,26,true),(3,166,true),(4,167,true)],5,72,[.int .i64 0,.slice none 0 0,.slice none 0 0,.map none,.map none],true⟩)) .nil)) (.node none .nil (.node none (tL Eo) .nil)))) (.node none (.node none (.node none .nil (.node none .nil (tL (some ⟨.array 2 3,2,16,[.int .i64 0,.int .i64 0],true⟩)))) (.node none .nil (tL Eo))) (.node none (.node none (.node none (.node none (tL Eo) .nil) (tL Eo)) .nil) (.node (some ⟨.slice 65,1,24,[.slice none 0 0],true⟩) .nil (.node none (tL Eo) .nil)))))) (.node L5 (.node (some ⟨.bool,1,1,[.bool false],true⟩) (.node none (.node none (.node none .nil (.node (some ⟨.struct [(0,22,true),(1,3,true),(2,94,true)],3,40,[.slice none 0 0,.int .i64 0,.int .u32 0],true⟩) (.node none (tL Ox) .nil) .nil)) (.node none (tL Oy) .nil)) (.node (some ⟨.slice 84,1,24,[.slice none 0 0],true⟩) (.node (some ⟨.slice 63,1,24,[.slice none 0 0],true⟩) (tL Qv) (.node none .nil (tL (some ⟨.struct [(0,230,true),(1,229,true)],3,40,[.slice none 0 0,.int .i64 0,.int .i64 0],true⟩)))) (.node none (.node none (.node none (tL L5) .nil) .nil) (.node none (tL Eo) .nil)))) (.node none (.node none (.node L5 .nil (.node none .nil (tL Eo))) (.node none (tL (some ⟨.struct [(0,3,true),(1,82,true),(2,3,true),(3,3,true),(4,3,true),(5,3,true)],6,48,.int .i64 0::List.replicate 5 (.int .i64 0),true⟩)) (tL Eo))) (.node (some ⟨.ptr 96,1,8,[.pointer none],true⟩) (.node Eo (.node none .nil (tL Eo)) .nil) .nil))) (.node none (.node none (.node none (.node none (.node (some ⟨.slice 72,1,24,[.slice none 0 0],true⟩) .nil (.node none (tL (some ⟨.ptr 307,1,8,[.pointer none],true⟩)) .nil)) .nil) (.node none (tL L5) (.node none .nil (tL (some ⟨.struct [(0,30,true)],1,8,[.nilFunc],true⟩))))) (.node (some ⟨.struct [(0,3,true),(1,23,true),(2,24,true)],3,56,[.int .i64 0,.slice none 0 0,.slice none 0 0],true⟩) (.node none (.node none (.node none (tL Ox) .nil) .nil) (.node (some ⟨.ptr 169,1,8,[.pointer none],true⟩) (tL Eo) (tL (some ⟨.struct [(0,3,true),(1,4,true),(2,31,true)],3,40,[.int .i64 0,.bool false,.slice none 0 0],true⟩)))) .nil)) (.node none (.node (some ⟨.slice 5,1,24,[.slice none 0 0],true⟩) (.node none (tL Oy) (.node none (tL (some ⟨.map 3 84,1,8,[.map none],true⟩)) (tL (some ⟨.slice 234,1,24,[.slice none 0 0],true⟩)))) (.node none .nil (.node none (tL Eo) .nil))) (.node Eo (.node none .nil (.node none (tL (some ⟨.slice 232,1,24,[.slice none 0 0],true⟩)) .nil)) (.node none (tL (some ⟨.int .u32,1,4,[.int .u32 0],true⟩)) (.node none .nil (tL Eo)))))))
def tT:TT:=tTr.get

set_option maxRecDepth 100000 in
theorem bNl:(tTr.all id).map (fun p=>bY Tryz.prog p.1)=(tTr.all id).map fun p=>some p.2:=by kernel_rfl
theorem aEn:∀ t i,tT t=some i→bY Tryz.prog t=some i:=fun t i h=>by
 have h1:=Tr.get_all tTr id t i h;obtain ⟨j,hj,hx⟩:=List.getElem_of_mem h1;have h2:=congrArg (fun l=>l[j]?) bNl
 simp only [eX,Aq hj,hx,Option.map_some,id,Option.some.injEq] at h2
 exact h2

def okF(P:Program)(f:Nat):Bool:=match P.funcs[f]? with
 | some fn => !(fn.name == "runtime.NumGoroutine") && fn.body.isSome
 | none=>false
theorem bHv{P:Program}{f:Nat}(h:okF P f=true)(args:Array Value)(w:World):(callFunc f args).run P w = .ok (.enter f args) w:=by
 unfold okF at h
 split at h
 ·rename_i fn hf
  simp only [Bl,Bool.not_eq_true'] at h
  have hn : ¬ fn.name = "runtime.NumGoroutine" := by simpa using h.1
  have hb:¬ fn.body=none:=fun e=>by rw [e] at h;cases h.2
  unfold callFunc;simp [hf,hn,hb]
 ·cases h
def ok(f:Nat):Bool:=match Nat.ble 2 f with
 | true=>Nat.ble f 294
 | false=>false
set_option maxRecDepth 100000 in
theorem bNm:((List.range 295).drop 2).all (okF Tryz.prog)=true:=by kernel_rfl
theorem bNn:∀ f,ok f=true→∀ args w,(callFunc f args).run Tryz.prog w = .ok (.enter f args) w:=fun f h=>by
 unfold ok at h
 split at h
 ·rename_i h2
  have h2:=Nat.le_of_ble_eq_true h2;have h3:=Nat.le_of_ble_eq_true h;have:=bNm;rw [fU] at this
  refine bHv (this f ?_);rw [List.mem_iff_getElem];exact ⟨f-2,by simp;omega,by simp;omega⟩
 ·cases h
theorem mixed:Tryz.prog.follows .mixedOrders=true:=by kernel_rfl
end
section
variable {P:Program} {T:TT} {E:Env} {C C0:Cx} {M M0 M1:Mem} {w w0:World}

def bkI(ids:List Nat)(base j:Nat):Option Nat:=match ids[j]? with
 | some i=>some i
 | none=>match Nat.beq j ids.length with
  | true=>some base
  | false=>none
def mQ(ids:List Nat)(base:Nat):List Nat→Mem→Option Upd
 | i::r,some o::m=>match mpO (bkI ids base) o with
  | some o'=>(mQ ids base r m).map ((i,o') :: ·)
  | none=>none
 | [],[]=>some []
 | [],[some o]=>match mpO (bkI ids base) o with
  | some o'=>some [(base,o')]
  | none=>none
 | _,_=>none

theorem aEo{G4:List Nat}{base:Nat}:∀ {ids:List Nat} {m:Mem} {L:Upd},mQ G4 base ids m=some L→ids.Nodup→base∉ids →
  (m.length=ids.length∨m.length=ids.length+1) ∧
  ∀ (N:Mem),(∀ (p i:Nat) (o':AO),ids[p]? = some i→(bH (upds N L) i=some o'↔∃ o,m[p]? = some (some o)∧mpO (bkI G4 base) o=some o')) ∧
   (m.length=ids.length+1→∀ (o':AO),(bH (upds N L) base=some o'↔∃ o,m[ids.length]? = some (some o)∧mpO (bkI G4 base) o=some o')) ∧
   (m.length=ids.length→bH (upds N L) base=bH N base) ∧
   ∀ j,j∉ids→j≠base→bH (upds N L) j=bH N j
 | [],[],L,h,_,_=>by
  unfold mQ at h;cases h
  refine ⟨.inl rfl,fun N=>⟨fun p i o' hp=>by simp at hp,fun h=>by simp at h,fun _=>rfl,fun _ _ _=>rfl⟩⟩
 | [],[some o],L,h,_,_=>by
  unfold mQ at h
  split at h
  ·rename_i o' ho
   cases h;refine ⟨.inr rfl,fun N=>⟨fun p i o' hp=>by simp at hp,fun _ o2 => ?_,fun h=>by simp at h,fun j _ hj => ?_⟩⟩
   ·simp only [upds]
    rw [cI,if_pos rfl];constructor
    ·intro h;cases h;exact ⟨o,rfl,ho⟩
    ·rintro ⟨o3,h3,h4⟩
     simp at h3;subst h3
     rw [ho] at h4;exact h4
   ·simp only [upds]
    rw [cI,if_neg (Ne.symm hj)]
  ·cases h
 | i::r,some o::m,L,h,hd,hb=>by
  unfold mQ at h
  split at h
  ·rename_i o' ho
   simp only [kI] at h
   obtain ⟨L',J9,rfl⟩:=h;obtain ⟨Jm,Jl⟩:=List.nodup_cons.1 hd;have Ci:base≠i:=fun e=>hb (by simp [e])
   have Ed:base∉r:=fun e=>hb (Cj _ e)
   obtain ⟨q1,q2⟩:=aEo (ids:=r) J9 Jl Ed;refine ⟨by simpa using q1,fun N => ?_⟩
   obtain ⟨r1,r2,r3,r4⟩:=q2 (aU N i (some o'));refine ⟨fun p j o2 hp => ?_,fun hl o2 => ?_,fun hl => ?_,fun j hj hne => ?_⟩
   ·cases p with
    | zero =>
     simp at hp;subst hp
     simp only [upds];rw [r4 i Jm (Ne.symm Ci),cI,if_pos rfl];constructor
     ·intro h;cases h;exact ⟨o,rfl,ho⟩
     ·rintro ⟨o3,h3,h4⟩
      simp at h3;subst h3
      rw [ho] at h4;exact h4
    | succ p =>
     simp only [upds];rw [List.getElem?_cons_succ] at hp
     rw [r1 p j o2 hp];rfl
   ·have:=r2 (by simpa using hl) o2
    simpa [upds] using this
   ·simp only [upds]
    rw [r3 (by simpa using hl),cI,if_neg (Ne.symm Ci)]
   ·simp only [upds]
    rw [r4 j (fun e=>hj (Cj _ e)) hne,cI,if_neg (fun e=>hj (by simp [e]))]
  ·cases h
 | [],none::_,L,h,_,_=>by unfold mQ at h;cases h
 | [],some _::_::_,L,h,_,_=>by unfold mQ at h;cases h
 | _::_,[],L,h,_,_=>by unfold mQ at h;cases h
 | _::_,none::_,L,h,_,_=>by unfold mQ at h;cases h

theorem aBd{G4:List Nat}{base:Nat}:∀ {ids:List Nat} {m:Mem} {L:Upd},mQ G4 base ids m=some L→∀ (p:Nat) (o1:AO),m[p]? = some (some o1)→∃ o',mpO (bkI G4 base) o1=some o'
 | [],[],L,h,p,o1,hp=>by simp at hp
 | [],[some o],L,h,p,o1,hp=>by
  unfold mQ at h
  split at h
  ·rename_i hx
   cases p with
   | zero=>simp at hp;subst hp;exact ⟨_,hx⟩
   | succ p=>simp at hp
  ·cases h
 | i::r,some o::m,L,h,p,o1,hp=>by
  unfold mQ at h
  split at h
  ·rename_i hx
   simp only [kI] at h
   obtain ⟨L',J9,_⟩:=h;cases p with
   | zero=>simp at hp;subst hp;exact ⟨_,hx⟩
   | succ p=>exact aBd J9 p o1 (by simpa using hp)
  ·cases h
 | [],none::_,L,h,_,_,_=>by unfold mQ at h;cases h
 | [],some _::_::_,L,h,_,_,_=>by unfold mQ at h;cases h
 | _::_,[],L,h,_,_,_=>by unfold mQ at h;cases h
 | _::_,none::_,L,h,_,_,_=>by unfold mQ at h;cases h

def Cx.back(C C1:Cx)(ids:List Nat)(base:Nat):Cx :=
 {ι:=fun j=>match idx ids j 0 with | some p=>C1.ι p | none=>if j=base then C1.ι ids.length else C.ι j
  κ:=fun j=>match idx ids j 0 with | some p=>C1.κ p | none=>if j=base then C1.κ ids.length else C.κ j
  F:=C1.F }
theorem oO:∀ {ids:List Nat},ids.Nodup→∀ {p i:Nat} (n:Nat),ids[p]? = some i→idx ids i n=some (n+p)
 | [],_,p,i,n,h=>by simp at h
 | a::r,hd,p,i,n,h=>by
  obtain ⟨h1,h2⟩:=List.nodup_cons.1 hd;unfold idx;cases p with
  | zero=>simp at h;subst h;simp
  | succ p =>
   rw [List.getElem?_cons_succ] at h
   have hne:a≠i:=fun e=>h1 (e ▸ Bi h)
   have hb:Nat.beq a i=false:=by
    cases hq:Nat.beq a i with
    | false=>rfl
    | true=>exact absurd (Nat.eq_of_beq_eq_true hq) hne
   rw [hb];have:=oO h2 (n+1) h;simp only [this]
   congr 1;omega

theorem aGq{f:Nat→Option Nat}{C':Cx}{M':Mem}(hm:aTu f C C' M M'):∀ {l ys:List AV} {us:List Value},cN C M w l us→mpL f l=some ys→cN C' M' w ys us
 | [],ys,us,h,hr=>by cases h;simp only [mpL] at hr;cases hr;exact .nil
 | x::r,ys,us,h,hr=>by
  cases h with
  | cons _ u _ k hx hk =>
   simp only [mpL] at hr
   split at hr
   ·rename_i y hy
    simp only [kI] at hr
    obtain ⟨r',Fv,rfl⟩:=hr;exact .cons _ _ _ _ (rJ hm hx hy) (aGq hm hk Fv)
   ·cases hr

theorem bHw{base:Nat}{ids:List Nat}{r y:AV}{L:Upd}{C1:Cx}{w':World}{u:Value}(hd:distinct 0 ids=true)(hb:eL M base=true)
  (hs:rnM 0 ids (ids.map (at? M))=some M0) (hlv:∀ i∈ids,dR M i=true) (hU:mQ ids base ids M1=some L) (hy:mpA (bkI ids base) r=some y)
  (hM:aP P C M w) (hF:Fr (C.rn 0 ids) M0 w C1 M1 w') (Bp:aP P C1 M1 w') (hr:Rep C1 M1 w' r u):Fr C M w (C.back C1 ids base) (upds M L) w'∧aP P (C.back C1 ids base) (upds M L) w'∧Rep (C.back C1 ids base) (upds M L) w' y u:=by
 obtain ⟨_,hnd⟩:=gU hd;obtain ⟨Cc,hmp,hsrc⟩:=pP (k:=0) hM hd hs;have hlen:M0.length=ids.length:=by have:=(zN hs).1;simpa using this
 have hbn:base∉ids:=fun hm=>by
  obtain ⟨o,h1,_⟩:=cY (hlv _ hm);exact cC hb o h1
 obtain ⟨A4,hup⟩:=aEo hU hnd hbn;obtain ⟨u1,u2,u3,u4⟩:=hup M;have hL:=Cc.le hF;have srcp:∀ p i,ids[p]? = some i→lS 0 ids p=some i:=fun p i h=>by simp [lS,h]
 have rnp:∀ p i,ids[p]? = some i→rnI 0 ids i=some p:=fun p i h=>by
  have:=oO hnd 0 h;unfold rnI;rw [show Nat.blt i 0=false from rfl,this,fG]
 have Cl:∀ p i,ids[p]? = some i→∃ o o0,M[i]? = some (some o)∧o.live=true∧M0[p]? = some (some o0)∧o0.live=true∧(C.rn 0 ids).ι p=C.ι i∧(C.rn 0 ids).κ p=C.κ i:=fun p i hp=>by
  obtain ⟨o,h1,h2⟩:=cY (hlv i (Bi hp));obtain ⟨o0,h3,h4⟩:=hmp.fw _ _ _ (rnp p i hp) h1;exact ⟨o,o0,h1,h2,h3,by rw [bD h4];exact h2,hmp.at_ _ _ (rnp p i hp)⟩
 have sh_of:∀ (p:Nat) (o0:AO),M0[p]? = some (some o0)→∃ i o,ids[p]? = some i∧M[i]? = some (some o)∧o.live=true∧o0.live=true∧(C.rn 0 ids).ι p=C.ι i:=fun p o0 hp=>by
  obtain ⟨hl,_⟩:=Bc.1 hp;have He:ids[p]? = some ids[p]:=Aq (by omega)
  obtain ⟨o,o1,h1,h2,h3,h4,h5,_⟩:=Cl p _ He;rw [hp] at h3;cases h3
  exact ⟨_,o,He,h1,h2,h4,h5⟩
 have apart:∀ (j:Nat) (o:AO) (b:Nat),j∉ids→M[j]? = some (some o)→o.live=true→C.ι j=some b→w'.heap[b]? = w.heap[b]? ∧ ¬ C1.F b∧∀ (p:Nat) (o1:AO),M1[p]? = some (some o1)→o1.live=true→C1.ι p≠some b:=fun j o b hj h1 h2 h3=>by
  have Ci:=hM.lt j o b h1 h2 h3;have Ka:∀ (p:Nat) (o0:AO),M0[p]? = some (some o0)→o0.live=true→(C.rn 0 ids).ι p≠some b:=fun p o0 hp _ he=>by
   obtain ⟨i,o2,q1,q2,q3,_,q4⟩:=sh_of p o0 hp;rw [q4] at he
   have:=hM.inj j i o o2 b h1 h2 q2 q3 h3 he;subst this;exact hj (Bi q1)
  refine ⟨hF.keep b Ci Ka,fun hf => ?_,fun p o1 hp hl he => ?_⟩
  ·rcases hF.F2 b hf with q | q | ⟨p,o0,q1,q2,q3⟩
   ·exact hM.nF j o b h1 h2 h3 q
   ·omega
   ·exact Ka p o0 q1 q2 q3
  ·rcases hF.new p o1 b hp hl he with q | ⟨p0,o0,q1,q2,q3⟩
   ·omega
   ·exact Ka p0 o0 q1 q2 q3
 have ix:∀ j,(j∈ids→∃ p,idx ids j 0=some p∧ids[p]? = some j)∧(j∉ids→idx ids j 0=none):=fun j=>by
  refine ⟨fun hj => ?_,fun hj => ?_⟩
  ·obtain ⟨p,hp,he⟩:=List.mem_iff_getElem.1 hj
   have:ids[p]? = some j:=by rw [Aq hp,he]
   exact ⟨p,by simpa using oO hnd 0 this,this⟩
  ·cases h1:idx ids j 0 with
   | none=>rfl
   | some p =>
    obtain ⟨_,h2⟩:=uE _ _ _ _ h1;exact absurd (Bi h2) hj
 have cls:∀ (j:Nat) (o':AO),(upds M L)[j]? = some (some o')→(∃ p o1,ids[p]? = some j∧M1[p]? = some (some o1)∧mpO (bkI ids base) o1=some o'∧(C.back C1 ids base).ι j=C1.ι p∧(C.back C1 ids base).κ j=C1.κ p) ∨
   (∃ o1,j=base∧j∉ids∧M1[ids.length]? = some (some o1)∧mpO (bkI ids base) o1=some o'∧(C.back C1 ids base).ι j=C1.ι ids.length∧(C.back C1 ids base).κ j=C1.κ ids.length) ∨
   (j∉ids∧j≠base∧M[j]? = some (some o')∧(C.back C1 ids base).ι j=C.ι j∧(C.back C1 ids base).κ j=C.κ j):=fun j o' hj=>by
  rw [← aZ] at hj
  by_cases hm:j∈ids
  ·obtain ⟨p,Hn,Hf⟩:=(ix j).1 hm
   obtain ⟨o1,h1,h2⟩:=(u1 p j o' Hf).1 hj;exact .inl ⟨p,o1,Hf,h1,h2,by simp [Cx.back,Hn],by simp [Cx.back,Hn]⟩
  ·have hn:=(ix j).2 hm
   by_cases hjb:j=base
   ·subst hjb
    rcases A4 with hl | hl
    ·rw [u3 hl] at hj
     have:=cC hb o';exact absurd (aZ.1 hj) this
    ·obtain ⟨o1,h1,h2⟩:=(u2 hl o').1 hj
     exact .inr (.inl ⟨o1,rfl,hm,h1,h2,by simp [Cx.back,hn],by simp [Cx.back,hn]⟩)
   ·rw [u4 j hm hjb] at hj
    exact .inr (.inr ⟨hm,hjb,aZ.1 hj,by simp [Cx.back,hn,hjb],by simp [Cx.back,hn,hjb]⟩)
 have Fq:Fr C M w (C.back C1 ids base) (upds M L) w':=by
  refine ⟨hF.os,hF.tape,hF.out,hF.size,fun b Ci hn => ?_,fun i o ho => ?_,fun i o ho ty n cs hx => ?_,fun i o ho o' hx hl => ?_,fun j o b hj hl hjb => ?_,fun b hb=>hF.F1 b hb,fun b hb => ?_⟩
  ·exact hF.keep b Ci fun p o0 hp hl he=>by
    obtain ⟨i,o2,q1,q2,q3,_,q4⟩:=sh_of p o0 hp;rw [q4] at he
    exact hn i o2 q2 q3 he
  ·by_cases hm:i∈ids
   ·obtain ⟨p,Hn,Hf⟩:=(ix i).1 hm
    obtain ⟨_,o0,_,_,h3,h4,h5,h6⟩:=Cl p i Hf;obtain ⟨⟨o1,q1⟩,q2,q3⟩:=hF.ids p o0 h3;refine ⟨?_,by simp only [Cx.back,Hn];rw [q2,h5],by simp only [Cx.back,Hn];rw [q3,h6]⟩
    have hq:∃ o',mpO (bkI ids base) o1=some o':=by
     exact aBd hU p o1 q1
    obtain ⟨o',hq⟩:=hq;exact ⟨o',aZ.1 ((u1 p i o' Hf).2 ⟨o1,q1,hq⟩)⟩
   ·have hne:i≠base:=fun e=>by subst e;exact cC hb o ho
    refine ⟨⟨o,aZ.1 (by rw [u4 i hm hne];exact aZ.2 ho)⟩,by simp [Cx.back,(ix i).2 hm,hne],by simp [Cx.back,(ix i).2 hm,hne]⟩
  ·rcases cls i _ hx with ⟨p,o1,q1,q2,q3,_⟩ | ⟨o1,rfl,_⟩ | ⟨_,_,q3,_⟩
   ·rw [kC q3] at q2
    obtain ⟨o2,o0,h1,_,h3,_⟩:=Cl p i q1;obtain ⟨Bh,h5⟩:=hF.row p o0 h3 _ _ _ q2;obtain ⟨o4,h6,h7⟩:=hmp.bk _ _ _ (rnp p i q1) h5;rw [kC h7] at h6
    exact ⟨Bh,h6⟩
   ·exact absurd ho (cC hb o)
   ·exact ⟨cs,q3⟩
  ·rcases cls i _ hx with ⟨p,o1,q1,q2,q3,_⟩ | ⟨o1,rfl,_⟩ | ⟨_,_,q3,_⟩
   ·obtain ⟨o2,o0,h1,h2,h3,_⟩:=Cl p i q1
    rw [ho] at h1;cases h1
    exact h2
   ·exact absurd ho (cC hb o)
   ·rw [ho] at q3;cases q3;exact hl
  ·have fin:∀ (p:Nat) (o1:AO),M1[p]? = some (some o1)→o1.live=true→C1.ι p=some b→w.heap.size≤b∨∃ (Gi:Nat) (o0:AO),M[Gi]? = some (some o0)∧o0.live=true∧C.ι Gi=some b:=fun p o1 h1 h2 h3=>by
    rcases hF.new p o1 b h1 h2 h3 with q | ⟨p0,o0,q1,q2,q3⟩
    ·exact .inl q
    ·obtain ⟨i,o2,r1,r2,r3,_,r4⟩:=sh_of p0 o0 q1
     rw [r4] at q3
     exact .inr ⟨i,o2,r2,r3,q3⟩
   rcases cls j _ hj with ⟨p,o1,q1,q2,q3,q4,_⟩ | ⟨o1,rfl,_,q2,q3,q4,_⟩ | ⟨_,_,q3,q4,_⟩
   ·rw [q4] at hjb
    exact fin p o1 q2 (by rw [← bD q3];exact hl) hjb
   ·rw [q4] at hjb
    exact fin _ o1 q2 (by rw [← bD q3];exact hl) hjb
   ·rw [q4] at hjb
    exact .inr ⟨j,o,q3,hl,hjb⟩
  ·rcases hF.F2 b hb with q | q | ⟨p,o0,q1,q2,q3⟩
   ·exact .inl q
   ·exact .inr (.inl q)
   ·obtain ⟨i,o2,r1,r2,r3,_,r4⟩:=sh_of p o0 q1
    rw [r4] at q3
    exact .inr (.inr ⟨i,o2,r2,r3,q3⟩)
 have Fz:=hM.le Fq;have hbk:aTu (bkI ids base) C1 (C.back C1 ids base) M1 (upds M L):=by
  have two:∀ i j,bkI ids base i=some j→(ids[i]? = some j)∨(i=ids.length∧j=base):=fun i j h=>by
   unfold bkI at h
   split at h
   ·rename_i hi;cases h;exact .inl hi
   ·split at h
    ·rename_i hq;cases h;exact .inr ⟨Nat.eq_of_beq_eq_true hq,rfl⟩
    ·cases h
  have big:∀ (o:AO),M1[ids.length]? = some (some o)→M1.length=ids.length+1:=fun o h=>by
   obtain ⟨hl,_⟩:=Bc.1 h;omega
  refine ⟨fun i j o' hij hj => ?_,fun i j o hij hi => ?_,fun i j hij => ?_,fun _ h=>h⟩
  ·rcases two i j hij with h1 | ⟨rfl,rfl⟩
   ·exact (u1 i j o' h1).1 (aZ.2 hj)
   ·rcases A4 with hl | hl
    ·have:=aZ.2 hj
     rw [u3 hl] at this
     exact absurd (aZ.1 this) (cC hb o')
    ·exact (u2 hl o').1 (aZ.2 hj)
  ·have hq:∃ o',mpO (bkI ids base) o=some o':=by
    exact aBd hU i o hi
   obtain ⟨o',hq⟩:=hq
   rcases two i j hij with h1 | ⟨rfl,rfl⟩
   ·exact ⟨o',aZ.1 ((u1 i j o' h1).2 ⟨o,hi,hq⟩),hq⟩
   ·exact ⟨o',aZ.1 ((u2 (big o hi) o').2 ⟨o,hi,hq⟩),hq⟩
  ·rcases two i j hij with h1 | ⟨rfl,rfl⟩
   ·have:=oO hnd 0 h1
    rw [fG] at this
    simp [Cx.back,this]
   ·simp [Cx.back,(ix _).2 hbn]
 refine ⟨Fq,⟨fun j ty n cs h => ?_,fun j ty cs h => ?_,fun j es cl h => ?_,fun j j' o1 o2 b q1 l1 q2 l2 e1 e2 => ?_,fun j o b h hl hb => ?_,Bp.Fs,fun j o b h hl hb => ?_⟩,rJ hbk hr hy⟩
 ·rcases cls j _ h with ⟨p,o1,q1,q2,q3,q4,q5⟩ | ⟨o1,rfl,_,q2,q3,q4,q5⟩ | ⟨q1,_,q3,q4,q5⟩
  ·rw [kC q3] at q2
   rw [q4,q5];exact Bp.row _ _ _ _ q2
  ·rw [kC q3] at q2
   rw [q4,q5];exact Bp.row _ _ _ _ q2
  ·rw [q4,q5]
   rcases hM.row _ _ _ _ q3 with q | ⟨b,arr,inf,p0,p1,p2,p3,p4,p5,p6,p7,p8⟩
   ·exact .inl q
   ·exact .inr ⟨b,arr,inf,p0,by rw [(apart j _ b q1 q3 rfl p0).1];exact p1,p2,p3,p4,p5,p6,fun i hi=>(p7 i hi).mono Fz.F Fz.fz,p8⟩
 ·rcases cls j _ h with ⟨p,o1,q1,q2,q3,q4,q5⟩ | ⟨o1,rfl,_,q2,q3,q4,q5⟩ | ⟨q1,_,q3,q4,q5⟩
  ·cases o1 with
   | box Cn l =>
    simp only [mpO,kI] at q3
    obtain ⟨l',Dj,e⟩:=q3;cases e;obtain ⟨b,arr,p0,p1,p2,p3,p4⟩:=Bp.box _ _ _ q2;obtain ⟨n1,n2⟩:=eZ hbk (w:=w') (us:=fun j=>arr.getD j undef) p3 Dj
    exact ⟨b,arr,by rw [q4];exact p0,p1,by omega,n2,fun j hj=>p4 j (by omega)⟩
   | row=>simp [mpO] at q3
   | mp=>simp [mpO] at q3
   | pk=>simp [mpO] at q3
   | dead=>simp [mpO] at q3
  ·cases o1 with
   | box Cn l =>
    simp only [mpO,kI] at q3
    obtain ⟨l',Dj,e⟩:=q3;cases e;obtain ⟨b,arr,p0,p1,p2,p3,p4⟩:=Bp.box _ _ _ q2;obtain ⟨n1,n2⟩:=eZ hbk (w:=w') (us:=fun j=>arr.getD j undef) p3 Dj
    exact ⟨b,arr,by rw [q4];exact p0,p1,by omega,n2,fun j hj=>p4 j (by omega)⟩
   | row=>simp [mpO] at q3
   | mp=>simp [mpO] at q3
   | pk=>simp [mpO] at q3
   | dead=>simp [mpO] at q3
  ·obtain ⟨b,arr,p0,p1,p2,p3,p4⟩:=hM.box _ _ _ q3
   exact ⟨b,arr,by rw [q4];exact p0,by rw [(apart j _ b q1 q3 rfl p0).1];exact p1,p2,fun i hi=>(p3 i hi).mono Fz,p4⟩
 ·rcases cls j _ h with ⟨p,o1,q1,q2,q3,q4,q5⟩ | ⟨o1,rfl,_,q2,q3,q4,q5⟩ | ⟨q1,_,q3,q4,q5⟩
  ·cases o1 with
   | mp B2 Da =>
    simp only [mpO,Option.some.injEq] at q3
    cases q3;obtain ⟨b,arr,p0,p1,p2,p3⟩:=Bp.mp _ _ _ q2;refine ⟨b,arr,by rw [q4];exact p0,p1,p2,fun j hj => ?_⟩
    obtain ⟨en,s1,s2,s3,s4⟩:=p3 j hj;exact ⟨en,s1,s2,s3,s4.mono hbk.F (fun _ _=>rfl)⟩
   | row=>simp [mpO] at q3
   | box=>simp [mpO] at q3
   | pk=>simp [mpO] at q3
   | dead=>simp [mpO] at q3
  ·cases o1 with
   | mp B2 Da =>
    simp only [mpO,Option.some.injEq] at q3
    cases q3;obtain ⟨b,arr,p0,p1,p2,p3⟩:=Bp.mp _ _ _ q2;refine ⟨b,arr,by rw [q4];exact p0,p1,p2,fun j hj => ?_⟩
    obtain ⟨en,s1,s2,s3,s4⟩:=p3 j hj;exact ⟨en,s1,s2,s3,s4.mono hbk.F (fun _ _=>rfl)⟩
   | row=>simp [mpO] at q3
   | box=>simp [mpO] at q3
   | pk=>simp [mpO] at q3
   | dead=>simp [mpO] at q3
  ·obtain ⟨b,arr,p0,p1,p2,p3⟩:=hM.mp _ _ _ q3
   refine ⟨b,arr,by rw [q4];exact p0,by rw [(apart j _ b q1 q3 rfl p0).1];exact p1,p2,fun i hi => ?_⟩
   obtain ⟨en,s1,s2,s3,s4⟩:=p3 i hi;exact ⟨en,s1,s2,s3,s4.mono Fz.F Fz.fz⟩
 ·rcases cls j _ q1 with ⟨p,a1,r1,r2,r3,r4,_⟩ | ⟨a1,rfl,r1,r2,r3,r4,_⟩ | ⟨r1,rb,r3,r4,_⟩ <;> rcases cls j' _ q2 with ⟨p',a2,t1,t2,t3,t4,_⟩ | ⟨a2,rfl,t1,t2,t3,t4,_⟩ | ⟨t1,tb,t3,t4,_⟩
  all_goals try rfl
  all_goals (rw [r4] at e1;rw [t4] at e2)
  ·have:=Bp.inj p p' a1 a2 b r2 (by rw [← bD r3];exact l1) t2 (by rw [← bD t3];exact l2) e1 e2
   subst this;rw [r1] at t1;cases t1;rfl
  ·have:=Bp.inj p _ a1 a2 b r2 (by rw [← bD r3];exact l1) t2 (by rw [← bD t3];exact l2) e1 e2
   obtain ⟨hl,_⟩:=Bc.1 r1;omega
  ·exact absurd e1 ((apart j' o2 b t1 t3 l2 e2).2.2 p a1 r2 (by rw [← bD r3];exact l1))
  ·have:=Bp.inj _ p' a1 a2 b r2 (by rw [← bD r3];exact l1) t2 (by rw [← bD t3];exact l2) e1 e2
   obtain ⟨hl,_⟩:=Bc.1 t1;omega
  ·exact absurd e1 ((apart j' o2 b t1 t3 l2 e2).2.2 _ a1 r2 (by rw [← bD r3];exact l1))
  ·exact absurd e2 ((apart j o1 b r1 r3 l1 e1).2.2 p' a2 t2 (by rw [← bD t3];exact l2))
  ·exact absurd e2 ((apart j o1 b r1 r3 l1 e1).2.2 _ a2 t2 (by rw [← bD t3];exact l2))
  ·exact hM.inj j j' o1 o2 b r3 l1 t3 l2 e1 e2
 ·rcases cls j _ h with ⟨p,o1,q1,q2,q3,q4,q5⟩ | ⟨o1,rfl,_,q2,q3,q4,q5⟩ | ⟨q1,_,q3,q4,q5⟩
  ·rw [q4] at hb
   exact Bp.nF _ _ b q2 (by rw [← bD q3];exact hl) hb
  ·rw [q4] at hb
   exact Bp.nF _ _ b q2 (by rw [← bD q3];exact hl) hb
  ·rw [q4] at hb
   exact (apart j o b q1 q3 hl hb).2.1
 ·rcases cls j _ h with ⟨p,o1,q1,q2,q3,q4,q5⟩ | ⟨o1,rfl,_,q2,q3,q4,q5⟩ | ⟨q1,_,q3,q4,q5⟩
  ·rw [q4] at hb
   exact Bp.lt _ _ b q2 (by rw [← bD q3];exact hl) hb
  ·rw [q4] at hb
   exact Bp.lt _ _ b q2 (by rw [← bD q3];exact hl) hb
  ·rw [q4] at hb
   exact Cg (hM.lt j o b q3 hl hb) hF.size

theorem aNs{f base:Nat}{ids:List Nat}{args A0:List AV}{r y:AV}{L:Upd}(hd:distinct 0 ids=true)(hb:eL M base=true)
  (hs:rnM 0 ids (ids.map (at? M))=some M0) (hlv:∀ i∈ids,dR M i=true) (ha:rnL 0 ids args=some A0) (hU:mQ ids base ids M1=some L) (hy:mpA (bkI ids base) r=some y)
  (h:FMM P f A0 M0 r M1):FM P f args M y L:=by
 intro C w us hus hM n;obtain ⟨Cc,hmp,_⟩:=pP (k:=0) hM hd hs;refine (h (C.rn 0 ids) w us (aGq hmp hus ha) Cc n).mono ?_;rintro e w' ⟨u,rfl,C1,hF,Bp,hr⟩;exact ⟨u,rfl,C.back C1 ids base,bHw hd hb hs hlv hU hy hM hF Bp hr⟩
def shown(ids:List Nat)(base:Nat)(args:List AV)(bs:Upd)(M1:Mem)(r:AV):Option (List AV × Mem × AV × Upd):=match distinct 0 ids && ids.all (dR (upds [] bs)) with
 | true=>match rnM 0 ids (ids.map (at? (upds [] bs))) with
  | some M0=>match rnL 0 ids args with
   | some A0=>match mQ ids base ids M1 with
    | some L=>match mpA (bkI ids base) r with
     | some y=>some (A0,M0,y,L)
     | none=>none
    | none=>none
   | none=>none
  | none=>none
 | false=>none
theorem FMM.fc{f base:Nat}{ids:List Nat}{args A0:List AV}{bs:Upd}{r y:AV}{L:Upd}(h:FMM P f A0 M0 r M1)(hs:shown ids base args bs M1 r=some (A0,M0,y,L)):FC P f args bs base y L:=fun M hb hf _=>by
 unfold shown at hs
 have hsub:aLw (upds [] bs) M:=fun id o ho=>by
  rcases pN bs [] id o ho with h5 | h5
  ·exact hb _ h5
  ·simp [bH] at h5
 split at hs
 ·rename_i hd
  rw [Bl,fU] at hd
  have hlv:∀ i∈ids,∃ o,bH (upds [] bs) i=some o∧bH M i=some o∧o.live=true:=fun i hi=>by
   obtain ⟨o,h1,h2⟩:=cY (hd.2 i hi);exact ⟨o,aZ.2 h1,hsub _ _ (aZ.2 h1),h2⟩
  split at hs
  ·rename_i h1
   split at hs
   ·rename_i h2
    split at hs
    ·rename_i h3
     split at hs
     ·rename_i h4
      cases hs;have he:ids.map (at? M)=ids.map (at? (upds [] bs)):=yL fun i hi=>by
       obtain ⟨o,q1,q2,_⟩:=hlv i hi;unfold at?
       rw [q1,q2]
      refine aNs hd.1 hf (by rw [he];exact h1) (fun i hi => ?_) h2 h3 h4 h
      obtain ⟨o,_,q2,q3⟩:=hlv i hi;exact iD (aZ.1 q2) q3
     ·cases hs
    ·cases hs
   ·cases hs
  ·cases hs
 ·cases hs

theorem aKg{id ty n:Nat}{cs:List PV}(hM:aP P C M w)(ho:M[id]? = some (some (.row ty n cs))):∀ {l:List AV} {us:List Value},cN C M w l us→cN (C.close id true) (aU M id (some .dead)) w (fzL id n cs l) us
 | [],us,h=>by cases h;simp only [fzL];exact .nil
 | x::r,us,h=>by
  cases h with
  | cons _ u _ k hx hr =>
   simp only [fzL];exact .cons _ _ _ _ (aDr hM ho hx) (aKg hM ho hr)
theorem FM.close1{f id ty n:Nat}{cs:List PV}{args:List AV}{y:AV}{L:Upd}(ho:bH M id=some (.row ty n cs))(h:FM P f (fzL id n cs args) (aU M id (some .dead)) y L):FM P f args M y ((id,.dead)::L):=fun C w us hus hM k=>by
 have ho:=aZ.1 ho;have fk:=cP (C:=C) (w:=w) true ho rfl;refine (h _ w us (aKg hM ho hus) (nP hM true ho rfl) k).mono ?_;rintro e w' ⟨u,rfl,C',hF,Fu,hr⟩;exact ⟨u,rfl,C',fk.trans hF,Fu,hr⟩
def aBe(bs:Upd):List Nat→List AV→Option (List AV)
 | [],args=>match iR args with
  | true=>some args
  | false=>none
 | id::r,args=>match bH (upds [] bs) id with
  | some (.row _ n cs)=>match r.all (fun j => !Nat.beq j id) with
   | true=>aBe bs r (fzL id n cs args)
   | false=>none
  | _=>none
def kills:List Nat→Upd→Upd
 | [],L=>L
 | id::r,L=>(id,.dead)::kills r L
theorem aEp{f base:Nat}{bs:Upd}{y:AV}{L:Upd}:∀ {ids:List Nat} {M:Mem} {args Am:List AV},aBe bs ids args=some Am→(∀ id∈ids,∀ o,bH (upds [] bs) id=some o→bH M id=some o)→eL M base=true→FV P f Am base y L→FM P f args M y (kills ids L)
 | [],M,args,Am,hc,_,hf,h=>by
  unfold aBe at hc
  split at hc
  ·rename_i hn
   cases hc;obtain ⟨r,M1,h1,h2⟩:=h;exact vV (.inl ⟨hn,rfl⟩) hf h2 h1
  ·cases hc
 | id::r,M,args,Am,hc,hb,hf,h=>by
  unfold aBe at hc
  split at hc
  ·rename_i ty n cs ho
   split at hc
   ·rename_i hd
    have hoM:=hb id (jQ ..) _ ho;refine FM.close1 hoM (aEp hc (fun j hj o hjo => ?_) ?_ h)
    ·have hne:j≠id:=fun e=>by
      have:=fU.1 hd j hj;subst e;simp at this
     rw [cI,if_neg (Ne.symm hne)];exact hb j (Cj _ hj) o hjo
    ·have hne:id≠base:=fun e=>by
      subst e;exact cC hf _ (aZ.1 hoM)
     unfold eL at hf ⊢
     rw [cI,if_neg hne];exact hf
   ·cases hc
  ·cases hc
theorem FV.close{f base:Nat}{ids:List Nat}{args Am:List AV}{y:AV}{L:Upd}{bs:Upd}(h:FV P f Am base y L)(hc:aBe bs ids args=some Am):FC P f args bs base y (kills ids L):=fun M hb hf _=>by
 refine aEp hc (fun id _ o ho => ?_) hf h
 rcases pN bs [] id o ho with h5 | h5
 ·exact hb _ h5
 ·simp [bH] at h5

def unA:AV→AV
 | .tup l => .tup (l.map un)
 | x=>un x
theorem bHx{x:AV}{u:Value}(h:Rep C M w x u):Rep C M w (unA x) u:=by
 cases h with
 | tup cs vs h1 h2 =>
  refine .tup _ _ (by simpa using h1) (fun i hi => ?_)
  simp only [lK];exact bCw (h2 i (by simpa using hi))
 | p x u h=>exact .p _ _ h
 | any u=>exact .any u
 | kb b=>exact bCw (.kb b)
 | yld l=>exact .yld l
 | own id u h0 ha h=>exact .own id u h0 ha h
 | arr id off n u h0 ha h=>exact .arr id off n u h0 ha h
 | ptr id off u h0 ha h hp=>exact .ptr id off u h0 ha h hp
 | mp id u h0 ha h=>exact .mp id u h0 ha h
 | pa id q u h0 ha h=>exact .pa id q u h0 ha h
 | rp cs off b o us h1 h2 h3=>exact .rp cs off b o us h1 h2 h3
 | agg cs vs h0 h1 h2=>exact .agg cs vs h0 h1 h2
 | fn f cs ds us vs h1 h2 h3 h4=>exact .fn f cs ds us vs h1 h2 h3 h4
theorem sU.un{f:Nat}{args:List AV}{M M1:Mem}{r:AV}(h:sU P f args M r M1):sU P f args M (unA r) M1:=fun C w us hus hM n=>by
 refine (h C w us hus hM n).mono ?_;rintro e w' ⟨u,rfl,C1,hF,Bp,hr,hP⟩;exact ⟨u,rfl,C1,hF,Bp,bHx hr,hP⟩

def bHy(k:Nat)(g:Gh)(x:Option ((AV × Mem) × AS)):Option (AV × Mem × List Prop × List OI):=match x with
 | some ((r,M1),s)=>match gh k g ⟨[unA r],M1⟩ with
  | some ⟨[r'],M'⟩=>some (r',M',s.obs,s.o)
  | _=>none
 | none=>none
theorem sU.gh{f k:Nat}{args:List AV}{M M1 M':Mem}{r r':AV}{g:Gh}(hk:M.length≤k)(h:sU P f args M r M1)(hg:KV.gh k g ⟨[r],M1⟩=some ⟨[r'],M'⟩):sU P f args M r' M':=fun C w us hus hM n=>by
 refine (h C w us hus hM n).mono ?_;rintro e w' ⟨u,rfl,C1,hF,Bp,hr,hP⟩;have hs:Sim P (C.with []) M w ⟨[r],M1⟩ { tmps := #[u],defers:=[] } w':=⟨C1,⟨rfl,fun i hi=>by
  obtain rfl:i=0:=by simpa using hi
  exact hr⟩,Bp,hF.based [],⟨[],rfl,.nil,fun D h=>by simp at h⟩,fun p hp=>(by cases hp),hP⟩
 obtain ⟨C2,hS,Hc,Fq,_,_,R6⟩:=dY hk hg hs;exact ⟨u,rfl,C2,Fq.unbased,Hc,hS.rep 0 (by simp),R6⟩
end
section
/-- numbers, by runs -/
def rng:List (Nat × Nat)→List Nat
 | []=>[]
 | (a,n)::r=>List.range' a n++rng r

abbrev aA(n:Int):PV := .v (.int .i64 n)
abbrev blP(b:Bool):PV := .v (.bool b)
abbrev aH(l:List Int):PV := .sl l.length (l.map aA)
abbrev dZ:PV := .v (.slice none 0 0)

def EO:Env:=⟨fun _ _ _ _=>none,ok⟩
theorem aEm:kS Tp EO:=⟨fun _ _ _ _ _ _ h=>(by cases h),bNn⟩

def cd(f:Func):Code:=f.body.getD .skip
def sub:Code→List Nat→Code
 | c,[]=>c
 | .seq a b,i::r=>match i with | 0=>sub a r | _=>sub b r
 | .cond _ a b,i::r=>match i with | 0=>sub a r | _=>sub b r
 | .block _ b,_::r=>sub b r
 | .loop b,_::r=>sub b r
 | .scope b,_::r=>sub b r
 | .rangeFunc _ _ a b,i::r=>match i with | 0=>sub a r | _=>sub b r
 | _,_::_ => .skip
def look:List (Nat × AV)→Nat→AV
 | [],_ => .any
 | (i,x)::r,k=>match Nat.beq i k with
  | true=>x
  | false=>look r k
def frm(l:List (Nat × AV)):Nat→Nat→List AV
 | 0,_=>[]
 | n+1,k=>look l k::frm l n (k+1)
abbrev fr(n:Nat)(l:List (Nat × AV)):List AV:=frm l n 0

abbrev asg(o:List OI):AS:=⟨false,o,[]⟩
abbrev out(l:List Prop):AS:=⟨false,[],l⟩
theorem gn:aX (out []):=fun _ h=>by simp at h
theorem gc{p:Prop}{l:List Prop}(hp:p)(h:aX (out l)):aX (out (p::l)):=fun q hq=>by
 rcases gX.1 hq with rfl | hq
 ·exact hp
 ·exact h q hq

def bNk(base:Nat)(x:Option ((AV × Mem) × AS)):Option (AV × Upd × List Prop × List OI):=match x with
 | some ((r,M1),s)=>match aTn M1 base (unA r) with
  | some (y,L)=>some (y,L,s.obs,s.o)
  | none=>none
 | none=>none
theorem FV.fin{f base:Nat}{fn:Func}{args:List AV}{y:AV}{L:Upd}{o:List OI}{l:List Prop}(hf:Tryz.prog.funcs[f]? = some fn)(hb:fn.body.isSome=true)
  (h:bNk base (aLz Tp tT EO 0 fn (cd fn) args [] (asg o))=some (y,L,l,[])) (g:aX (out l)):FV Tp f args base y L:=by
 unfold bNk at h
 split at h
 ·rename_i r M1 s hr
  split at h
  ·rename_i y' L' ho
   simp only [Option.some.injEq,Prod.mk.injEq] at h
   obtain ⟨rfl,rfl,rfl,hs⟩:=h;refine ⟨unA r,M1,(sU.un (xH aEn aEm mixed hf ?_ hr (fun p hp=>g p hp))).fmm,ho⟩
   unfold cd;cases h1:fn.body with
   | none=>rw [h1] at hb;cases hb
   | some c=>rfl
  ·cases h
 ·cases h
def yM(k:Nat)(g:Gh)(x:Option ((Ex × St) × AS)):Option (Ex × St × List Prop × List OI):=match x with
 | some ((e,st1),s)=>match gh k g st1 with
  | some Ah=>some (e,Ah,s.obs,s.o)
  | none=>none
 | none=>none
theorem aC.fin{k:Nat}{c:Code}{st Ah:St}{e:Ex}{g:Gh}{o:List OI}{l:List Prop}(h:yM k g (yF Tp tT EO k 0 c st (asg o))=some (e,Ah,l,[]))(gd:aX (out l)):aC Tp k c st e Ah:=by
 unfold yM at h
 split at h
 ·rename_i e1 st1 s hr
  split at h
  ·rename_i st2 hg
   simp only [Option.some.injEq,Prod.mk.injEq] at h
   obtain ⟨rfl,rfl,rfl,hs⟩:=h;exact (zM aEn aEm mixed c hr (fun p hp=>gd p hp)).post hg
  ·cases h
 ·cases h
theorem sU.fin{f k:Nat}{fn:Func}{args:List AV}{M M':Mem}{r:AV}{g:Gh}{o:List OI}{l:List Prop}(hk:M.length=k)(hf:Tryz.prog.funcs[f]? = some fn)(hb:fn.body.isSome=true)
  (h:bHy k g (aLz Tp tT EO 0 fn (cd fn) args M (asg o))=some (r,M',l,[])) (gd:aX (out l)):sU Tp f args M r M':=by
 unfold bHy at h
 split at h
 ·rename_i r1 M1 s hr
  split at h
  ·rename_i r2 M2 hg
   simp only [Option.some.injEq,Prod.mk.injEq] at h
   obtain ⟨rfl,rfl,rfl,hs⟩:=h;refine sU.gh (Nat.le_of_eq hk) (sU.un (xH aEn aEm mixed hf ?_ hr (fun p hp=>gd p hp))) hg
   unfold cd;cases h1:fn.body with
   | none=>rw [h1] at hb;cases hb
   | some c=>rfl
  ·cases h
 ·cases h
theorem FMM.fin{f k:Nat}{fn:Func}{args:List AV}{M M':Mem}{r:AV}{g:Gh}{o:List OI}{l:List Prop}(hk:M.length=k)(hf:Tryz.prog.funcs[f]? = some fn)(hb:fn.body.isSome=true)
  (h:bHy k g (aLz Tp tT EO 0 fn (cd fn) args M (asg o))=some (r,M',l,[])) (gd:aX (out l)):FMM Tp f args M r M':=(sU.fin hk hf hb h gd).fmm
theorem FV.frz{P:Program}{f base:Nat}{args:List AV}{y:AV}(h:FMM P f args [] y [])(ho:aTn [] base y=some (y,[])):FV P f args base y []:=⟨y,[],h,ho⟩
theorem aC.cast{P:Program}{k:Nat}{c:Code}{st st1 Ah:St}{e:Ex}(h:aC P k c st e st1)(he:st1=Ah):aC P k c st e Ah:=he ▸ h
def cQ(st:St)(l:List (Nat × AV)):St:=⟨l.foldl (fun t p=>t.set p.1 p.2) st.t,st.m⟩

theorem eJ{x y:Int}(h:x=y):(x == y)=true:=by simpa using h
theorem bI{x y:Int}(h:x≠y):(x == y)=false:=by simpa using h
theorem qL{x y:Int}(h:x≠y):(x != y)=true:=by simpa using h
theorem eY{x y:Int}(h:x=y):(x != y)=false:=by simpa using h
theorem bU{x y:Int}(h:x<y):decide (x<y)=true:=by simpa using h
theorem aS{x y:Int}(h:y≤x):decide (x<y)=false:=by simpa using h
theorem yN{x y:Int}(h:x≤y):decide (x≤y)=true:=by simpa using h
theorem kT{x y:Int}(h:y<x):decide (x≤y)=false:=by simpa using h
theorem cE{b:Bool}(h:b=false):(!b)=true:=by simpa using h
theorem aW{b:Bool}(h:b=true):(!b)=false:=by simpa using h

theorem fD{α:Type}{g:α→PV}{l:List α}{i:Nat}{x:α}(h:l[i]? = some x):(l.map g)[i*1]? = some (g x):=by rw [Nat.mul_one,eX,h];rfl
theorem iF{α:Type}{g:α→PV}{l:List α}{i:Int}{x:α}(h0:0≤i)(h:l[i.toNat]? = some x):0≤i∧i<(l.length:Int)∧i.toNat*1<(l.map g).length:=by
 obtain ⟨h1,_⟩:=Bc.1 h;refine ⟨h0,by omega,by simpa using h1⟩
theorem cF{α:Type}{l:List α}{i:Int}{x:α}(h0:0≤i)(h:l[i.toNat]? = some x):0≤i∧i<(l.length:Int):=by
 obtain ⟨h1,_⟩:=Bc.1 h;exact ⟨h0,by omega⟩
theorem fk{P:Program}{f:Nat}{args:List AV}{y:AV}{L:Upd}(base:Nat)(h:FV P f args base y L)(hn:iR args=true):FC P f args [] base y L:=h.fc hn
theorem fv{P:Program}{f base:Nat}{args Am:List AV}{y:AV}{L:Upd}{bs:List (Nat × AO)}(h:FV P f Am base y L)(hv:mD (upds [] bs) args=some Am:=by kernel_rfl)(h1:aTp y=true:=by kernel_rfl)(h2:aTq L=true:=by kernel_rfl):FC P f args bs base y L:=h.view hv h1 h2
theorem ixn{α:Type}{l:List α}{i:Nat}{x:α}(g:α→PV)(h:l[i]? = some x):0≤(i:Int)∧(i:Int)<(l.length:Int)∧(i:Int).toNat*1<(l.map g).length:=iF (B4 _) (by rwa [aKe])
theorem atm{α:Type}{l:List α}{i:Nat}{x:α}(g:α→PV)(h:l[i]? = some x):(l.map g)[i*1]? = some (g x):=fD h
abbrev bF:OI := .b false
abbrev bT:OI := .b true
abbrev pI (n:Int):AV:=.p (aA n)
abbrev pB (b:Bool):AV:=.p (blP b)
abbrev fS (l:Lqq):PV:=.sl l.length (l.flatten.map aA)
theorem Bn {p:Prop}{l:List Prop}(hp:p)(h:aX (out l)):aX (out (p::p::l)):=gc hp (gc hp (h))
theorem Aw {p:Prop}{l:List Prop}(hp:p)(h:aX (out l)):aX (out (p::p::p::l)):=gc hp (gc hp (gc hp (h)))
theorem Ba {p:Prop}{l:List Prop}(hp:p)(h:aX (out l)):aX (out (p::p::p::p::l)):=gc hp (gc hp (gc hp (gc hp (h))))
theorem Dp {p:Prop}{l:List Prop}(hp:p)(h:aX (out l)):aX (out (p::p::p::p::p::l)):=gc hp (gc hp (gc hp (gc hp (gc hp (h)))))
theorem Lg {p:Prop}{l:List Prop}(hp:p)(h:aX (out l)):aX (out (p::p::p::p::p::p::l)):=gc hp (gc hp (gc hp (gc hp (gc hp (gc hp (h))))))
theorem Hm {p:Prop}{l:List Prop}(hp:p)(h:aX (out l)):aX (out (p::p::p::p::p::p::p::l)):=gc hp (gc hp (gc hp (gc hp (gc hp (gc hp (gc hp (h)))))))
theorem J8 {p:Prop}{l:List Prop}(hp:p)(h:aX (out l)):aX (out (p::p::p::p::p::p::p::p::l)):=gc hp (gc hp (gc hp (gc hp (gc hp (gc hp (gc hp (gc hp (h))))))))
theorem gt (p:Prop){l:List Prop}(hp:p)(h:aX (out l)):aX (out (p::l)):=gc hp h
theorem gr (v:PV){l:List Prop}(h:aX (out l)):aX (out ((some v=some v)::l)):=gc rfl h
theorem gf{l:List Prop}(h:aX (out l)):aX (out ((false=false)::l)):=gc rfl h
def FC.o{P:Program}{f:Nat}{args:List AV}{bs:List (Nat × AO)}{base:Nat}{y:AV}{L:Upd}(_:FC P f args bs base y L):OI:=.c y L
def aG.k{P:Program}{k:Nat}{c:Code}{st Ah:St}{e:Ex}(_:aG P k c st e Ah)(n:Nat)(g:Gh):OI:=.k n g e Ah
def aC.k{P:Program}{k:Nat}{c:Code}{st Ah:St}{e:Ex}(_:aC P k c st e Ah)(n:Nat)(g:Gh):OI:=.k n g e Ah
def qI(ids:List Nat)(base:Nat)(x:AV):AV:=(mpA (bkI ids base) x).getD .any
def qM(f:Nat→Option Nat):List Nat→Mem→Upd
 | i::r,some o::M=>match mpO f o with
  | some q=>(i,q)::qM f r M
  | none=>[]
 | i::r,none::M=>qM f r M
 | _,_=>[]
def qS(ids:List Nat)(f:Nat→Option Nat)(args:List AV)(M:Mem):Upd:=blocks (upds [] (qM f ids M)) (clos (upds [] (qM f ids M)) (tC args))
theorem mq(ids:List Nat)(base:Nat){P:Program}{f:Nat}{A0:List AV}{M0 M1:Mem}{r:AV}(h:FMM P f A0 M0 r M1)(hs:shown ids base (A0.map (qI ids base)) (qS ids (bkI ids base) (A0.map (qI ids base)) M0) M1 r=some (A0,M0,qI ids base r,(mQ ids base ids M1).getD []):=by kernel_rfl):FC P f (A0.map (qI ids base)) (qS ids (bkI ids base) (A0.map (qI ids base)) M0) base (qI ids base r) ((mQ ids base ids M1).getD []):=FMM.fc h hs
theorem FV.fi{f base:Nat}{fn:Func}{args:List AV}{y:AV}{L:Upd}{l:List Prop}(hf:Tryz.prog.funcs[f]? = some fn)(o:List OI)(g:aX (out l))(h:bNk base (aLz Tryz.prog tT EO 0 fn (cd fn) args [] (asg o))=some (y,L,l,[]):=by kernel_rfl)(hb:fn.body.isSome=true:=by kernel_rfl):FV Tryz.prog f args base y L:=FV.fin hf hb h g
theorem aC.fi{k:Nat}{c:Code}{st Ah:St}{e:Ex}(g:Gh)(o:List OI){l:List Prop}(gd:aX (out l))(h:yM k g (yF Tryz.prog tT EO k 0 c st (asg o))=some (e,Ah,l,[]):=by kernel_rfl):aC Tryz.prog k c st e Ah:=aC.fin h gd
theorem FMM.fi(k:Nat)(g:Gh){f:Nat}{fn:Func}{args:List AV}{M M':Mem}{r:AV}{l:List Prop}(hf:Tryz.prog.funcs[f]? = some fn)(o:List OI)(gd:aX (out l))(h:bHy k g (aLz Tryz.prog tT EO 0 fn (cd fn) args M (asg o))=some (r,M',l,[]):=by kernel_rfl)(hb:fn.body.isSome=true:=by kernel_rfl)(hk:M.length=k:=by kernel_rfl):FMM Tryz.prog f args M r M':=FMM.fin hk hf hb h gd
theorem g0{a b:Int}(h:a<b):aX (out [(decide (a<b))=true]):=gc (bU h) gn
def Ny:List Nat→List Nat
 | a::n::r=>List.range' a n++Ny r
 | _=>[]
abbrev gE:Gh:=⟨[],[],[],[]⟩
abbrev gZ(l:List Nat):Gh:=⟨Ny l,[],[],[]⟩
abbrev gI(l i:List Nat):Gh:=⟨Ny l,i,[],[]⟩
abbrev gN(l i:List Nat)(n:List (Nat × Nat)):Gh:=⟨Ny l,i,[],n⟩
abbrev rF(n:Nat):List OI:=List.replicate n (.b false)
abbrev rT(n:Nat):List OI:=List.replicate n (.b true)
abbrev pS(c:Code)(n:Nat)(l:List Nat):Code:=sub c (List.replicate n 1++l)
end
section
section
variable {P:Program} {k:Nat} {b:Code} {α:Type}
theorem aG.find(S:Nat→St)(R1:Nat→α→St)(R2:St)(e1 e2:Ex)(h1:e1 ≠ .normal)(h2:e2 ≠ .normal)(p:α→Bool)(l:List α)
  (hs:∀ (i:Nat) (x:α),l[i]? = some x→p x=false→aC P k b (S i) .normal (S (i+1)))
  (hq:∀ (i:Nat) (x:α),l[i]? = some x→p x=true→aC P k b (S i) e1 (R1 i x))
  (hx:aC P k b (S l.length) e2 R2) :
  (∃ i x,l[i]? = some x∧l.findIdx? p=some i∧p x=true∧aG P k b (S 0) e1 (R1 i x))∨(l.findIdx? p=none∧l.any p=false∧aG P k b (S 0) e2 R2):=by
 have key:∀ (r:List α) (i:Nat),l.drop i=r→i≤l.length→(∃ j x,l[i+j]? = some x∧r.findIdx? p=some j∧p x=true∧aG P k b (S i) e1 (R1 (i+j) x))∨(r.findIdx? p=none∧r.any p=false∧aG P k b (S i) e2 R2):=by
  intro r
  induction r with
  | nil =>
   intro i hd hi;have:i=l.length:=by have:=congrArg List.length hd;simp at this;omega
   subst this;exact .inr ⟨rfl,rfl,.exit hx h2⟩
  | cons x r ih =>
   intro i hd hi;have hl:l[i]? = some x:=by
    have:=congrArg (·[0]?) hd
    simpa using this
   have hlt:i<l.length:=(Bc.1 hl).1;cases hp:p x with
   | true=>exact .inl ⟨0,x,by simpa using hl,by simp [List.findIdx?_cons,hp],hp,.exit (hq i x hl hp) h1⟩
   | false =>
    have Ow:l.drop (i+1)=r:=by
     have:=congrArg List.tail hd;simpa [List.tail_drop] using this
    rcases ih (i+1) Ow (by omega) with ⟨j,y,q1,q2,q3,q4⟩ | ⟨q1,q2,q3⟩
    ·refine .inl ⟨j+1,y,by rw [← q1];congr 1;omega,by simp [List.findIdx?_cons,hp,q2],q3,?_⟩
     rw [show i+(j+1)=i+1+j by omega]
     exact .step (hs i x hl hp) q4
    ·exact .inr ⟨by simp [List.findIdx?_cons,hp,q1],by simp [hp,q2],.step (hs i x hl hp) q3⟩
 rcases key l 0 (by simp) (Nat.zero_le _) with ⟨j,x,q1,q2,q3,q4⟩ | q
 ·exact .inl ⟨j,x,by simpa using q1,q2,q3,by simpa using q4⟩
 ·exact .inr q
end
theorem aG.times{P:Program}{k:Nat}{b:Code}{β:Type}{e:Ex}(S:Nat→β→St)(R:β→St)(f:β→Nat→β)(Inv:Nat→β→Prop)(he:e ≠ .normal)(n:Nat){a0:β}(h0:Inv 0 a0)
  (hs:∀ (i:Nat) (acc:β),i<n→Inv i acc→Inv (i+1) (f acc i)∧aC P k b (S i acc) .normal (S (i+1) (f acc i)))
  (hx:∀ acc,Inv n acc→aC P k b (S n acc) e (R acc)):aG P k b (S 0 a0) e (R ((List.range n).foldl f a0)):=by
 refine aG.range S R f Inv he (List.range n) h0 (fun i x acc hl hI => ?_) (fun acc hI => ?_)
 ·obtain ⟨h1,rfl⟩:=Bc.1 hl
  rw [List.getElem_range];exact hs i acc (by simpa using h1) hI
 ·rw [bHt] at hI ⊢
  exact hx acc hI
def bO{α:Type}(p:α→Bool)(l:List α):Int:=match l.findIdx? p with
 | some i=>(i:Int)
 | none => -1
theorem jR{α:Type}{p:α→Bool}{l:List α}{i:Nat}(h:l.findIdx? p=some i):bO p l=(i:Int):=by unfold bO;rw [h]
theorem jS{α:Type}{p:α→Bool}{l:List α}(h:l.findIdx? p=none):bO p l = -1:=by unfold bO;rw [h]
theorem nS{α:Type}(p:α→Bool)(l:List α):decide (bO p l ≥ 0)=l.any p:=by
 unfold bO;cases h:l.findIdx? p with
 | none =>
  have:l.any p=false:=by simpa using h
  simp [this]
 | some i =>
  have:l.any p=true:=by
   have h2:(l.findIdx? p).isSome=true:=by rw [h];rfl
   rwa [List.findIdx?_isSome] at h2
  simp [this]
def uni(k:Nat)(L:Lqq):Prop:=∀ x∈L,x.length=k
theorem aBc{k:Nat}{x:List Int}{L:Lqq}(h:uni k (x::L)):uni k L:=fun y hy=>h y (Cj _ hy)
theorem aGp{k:Nat}:∀ {L:Lqq} (i:Nat),uni k L→(L.flatten).drop (i*k)=(L.drop i).flatten
 | [],i,_=>by simp
 | x::L,0,_=>by simp
 | x::L,i+1,h=>by
  have hx:=h x (by simp)
  rw [vB,List.drop_succ_cons,← aGp i (aBc h),List.drop_append];rw [List.drop_eq_nil_of_le (by rw [hx,aDc];omega),List.nil_append]
  congr 1
  rw [hx,aDc];omega
theorem aRr{k:Nat}:∀ {L:Lqq} (i:Nat),uni k L→(L.flatten).take (i*k)=(L.take i).flatten
 | [],i,_=>by simp
 | x::L,0,_=>by simp
 | x::L,i+1,h=>by
  have hx:=h x (by simp)
  rw [vB,List.take_succ_cons,vB,← aRr i (aBc h),List.take_append];rw [List.take_of_length_le (by rw [hx,aDc];omega)]
  congr 2
  rw [hx,aDc];omega
theorem oN{k:Nat}:∀ {L:Lqq},uni k L→(L.flatten).length=L.length*k
 | [],_=>by simp
 | x::L,h=>by rw [vB,lT,oN (aBc h),h x (by simp),tK,aDc];omega
theorem bMx{k i:Nat}{L:Lqq}{x:List Int}(h:uni k L)(hx:L[i]? = some x):((L.flatten).drop (i*k)).take k=x:=by
 have hl:x.length=k:=h x (Bi hx);obtain ⟨hi,he⟩:=Bc.1 hx;rw [aGp i h,bDb hi,vB,he,List.take_append_of_le_length (by omega),List.take_of_length_le (by omega)]
theorem gG{k i:Nat}{L:Lqq}{x:List Int}(h:uni k L)(hx:L[i]? = some x):i*k+k≤(L.flatten.map aA).length:=by
 obtain ⟨hi,_⟩:=Bc.1 hx;rw [eI,oN h];have:(i+1)*k≤L.length*k:=Nat.mul_le_mul_right _ hi;rw [aDc] at this;exact this
theorem eG{k i:Nat}{L:Lqq}{x:List Int}(h:uni k L)(hx:L[i]? = some x):some (PV.agg (((L.flatten.map aA).drop (i*k)).take k))=some (.agg (x.map aA)):=by
 rw [← List.map_drop,← List.map_take,bMx h hx]
theorem cZ{k i f:Nat}{L:Lqq}{x:List Int}{y:Int}(h:uni k L)(hx:L[i]? = some x)(hy:x[f]? = some y):(L.flatten.map aA)[i*k+f]? = some (aA y):=by
 have hl:x.length=k:=h x (Bi hx);have hf:f<k:=by rw [← hl];exact (Bc.1 hy).1
 have:=congrArg (·[f]?) (bMx h hx)
 simp only [List.getElem?_take,hf,if_true,List.getElem?_drop] at this
 rw [eX,this,hy];rfl
theorem vC{k i:Nat}{L:Lqq}{x:List Int}(h:uni k L)(hi:i<L.length)(hx:x.length=k):((L.flatten.map aA).take (i*k)++x.map aA++(L.flatten.map aA).drop (i*k+k))=((L.set i x).flatten.map aA):=by
 have e:i*k+k=(i+1)*k:=by rw [aDc]
 rw [← List.map_take,← List.map_drop,← fL,← fL,aRr i h,e,aGp (i+1) h];rw [List.set_eq_take_append_cons_drop,if_pos hi,bDd,vB,List.append_assoc]
theorem aRs{k i:Nat}{L:Lqq}{x:List Int}(h:uni k L)(hx:x.length=k):uni k (L.set i x):=fun y hy=>by
 rcases List.mem_or_eq_of_mem_set hy with h1 | rfl
 ·exact h y h1
 ·exact hx
theorem len2{x:List Int}(h:x.length=2):∃ a b,x=[a,b]:=by
 match x,h with
 | [a,b],_=>exact ⟨a,b,rfl⟩
theorem jJ{k:Nat}{L:Lqq}{i:Int}{x:List Int}(hk:0<k)(hu:uni k L)(h0:0≤i)(h:L[i.toNat]? = some x):0≤i∧i<(L.length:Int)∧i.toNat*k<(L.flatten.map aA).length:=by
 have h1:=gG hu h;obtain ⟨h2,_⟩:=Bc.1 h;exact ⟨h0,by omega,by omega⟩
theorem aN{n:Nat}(h:n≤1000000):inR ((n:Nat):Int):=by unfold inR;omega
theorem bA{α:Type}{l:List α}{i:Nat}{x:α}(h:l[i]? = some x):i<l.length:=(Bc.1 h).1
abbrev small(n:Nat):Prop:=n<1000000
theorem gfl{k i:Nat}{L:Lqq}{x:List Int}{l:List Prop}(hu:uni k L)(h:L[i]? = some x)(g:aX (out l))(hk:0<k:=by decide):aX (out ((some (PV.agg (((L.flatten.map aA).drop (i*k)).take k))=some (.agg (x.map aA)))::(i*k+k≤(L.flatten.map aA).length)::(0≤(i:Int)∧(i:Int)<(L.length:Int)∧(i:Int).toNat*k<(L.flatten.map aA).length)::l)):=gc (eG hu h) (gc (gG hu h) (gc (jJ hk hu (B4 _) (by rwa [aKe])) g))
theorem gfz{k:Nat}{z:Int}{L:Lqq}{x:List Int}{l:List Prop}(hu:uni k L)(h0:0≤z)(h:L[z.toNat]? = some x)(g:aX (out l))(hk:0<k:=by decide):aX (out ((some (PV.agg (((L.flatten.map aA).drop (z.toNat*k)).take k))=some (.agg (x.map aA)))::(z.toNat*k+k≤(L.flatten.map aA).length)::(0≤z∧z<(L.length:Int)∧z.toNat*k<(L.flatten.map aA).length)::l)):=gc (eG hu h) (gc (gG hu h) (gc (jJ hk hu h0 h) g))
end
end KV
end Go.Proofs
section
namespace Go.Proofs
open Go.ChangeShapes Go.WideShapes Go.ChangeAt Go.RowKit
namespace KV
open Tryz
variable {P:Program} {W W':World}

def CxW(W:World):Cx:={ ι:=fun _=>none,κ:=fun _=>0,F:=fun b=>b<W.heap.size }
theorem bVy(W:World):aP P (CxW W) [] W:=⟨fun i ty n cs h=>by simp at h,fun i ty cs h=>by simp at h,fun i es cl h=>by simp at h,fun i i' o o' b h=>by simp at h,fun i o b h=>by simp at h,fun b h=>h,fun i o b h=>by simp at h⟩

theorem FV.law{f:Nat}{args:List AV}{us:List Value}(h:∀ base:Nat,FV P f args base (.p (blP true)) [])(hn:iR args=true)(hus:cN (CxW W) [] W args us):Calls P f us.toArray W fun e W'=>e = .returned (.bool true)∧Below W.heap.size W W':=by
 have hc:=(h 0).fc (bs:=[]) hn [] (fun p hp=>by simp at hp) rfl
 refine (callsIn_wide (n:=0)).1 ((hc (fun j _=>by rw [fG];cases j <;> rfl) (CxW W) W us hus (bVy W) 0).mono ?_)
 rintro e w' ⟨u,rfl,C',hF,hM,hr⟩;cases hr with
 | p _ _ h =>
  cases h;exact ⟨rfl,hF.os,hF.tape,hF.out,hF.size,fun b hb=>hF.keep b hb fun id o ho=>by simp at ho⟩

section
variable {H:Type} {enc:TypeId × Value→H}
theorem sI(hl:laidOutB P=true)(hb:Below W.heap.size W W'):∀ {ts:List TypeId} {vs:List Value} {ds:List (DataW H)} {ps:List MemPlace},(ts.all fun t=>P.readableRec t && decide (t<P.types.size))=true→DataW.TrodAll enc P W 0 (fun _=>true) true ts vs ds ps→(∀ x∈ps,x.block<W.heap.size) →
  DataW.TrodAll enc P W' 0 (fun b=>decide (b<W.heap.size)) true ts vs ds ps
 | [],[],[],_,_,h,_=>h
 | t::ts,v::vs,d::ds,ps,hr,⟨p,q,h1,h2,e⟩,hlt=>by
  rw [List.all_cons,Bl,Bl,decide_eq_true_eq] at hr
  subst e;exact ⟨p,q,Below.trod hl hr.1.1 hr.1.2 h1 hb (fun x hx=>hlt x (nR _ hx)),sI hl hb hr.2 h2 (fun x hx=>hlt x (aDb _ hx)),rfl⟩
 | [],_::_,_,_,_,h,_=>h.elim
 | _::_,[],_,_,_,h,_=>h.elim
 | [],[],_::_,_,_,h,_=>h.elim
 | _::_,_::_,[],_,_,h,_=>h.elim

theorem aTj{a:Addr}{v:Value}(h:W.cell? (a.add 0)=some v):a=⟨a.block,a.off,none⟩:=by
 obtain ⟨b,o,s⟩:=a;cases s with
 | none=>rfl
 | some x =>
  unfold World.cell? at h
  simp only [Addr.add,if_true] at h
  split at h <;> simp at h

theorem aTk{t e:TypeId}{k:IntKind}{v:Value}{d:DataW H}{ps:List MemPlace}{base:Nat}(ht:P.underlying t=some (.slice e))(he:P.underlying e=some (.int k))(hc:P.cellsOf e=1)(hok:Value.okWide P W .any base t v)
  (h:DataW.Trod enc P W 0 (fun _=>true) true t v d ps):∃ l:List Int,cB (CxW W).F W (.sl l.length (l.map fun n => .v (.int k n))) v∧(∀ n∈l,(Lit.int k n).wf=true)∧l.length≤maxLen:=by
 obtain ⟨a0,len,cap,rfl⟩:=okWide_slice ht hok;obtain ⟨fuel,hf⟩:=h
 rcases open_ints ht he hc hf with ⟨hcs,hx⟩ | ⟨a,Rl,Er,zs,hcs,_,hl,hm,hz,hx,hcell,hwz⟩
 ·simp [Value.cells] at hcs
  obtain ⟨rfl,rfl,rfl⟩:=hcs;exact ⟨[],.sl 0 [] none 0 (fun _=>undef) (dH _) (Nat.zero_le _) (fun i h=>by simp at h) (fun i h=>by simp at h) (fun i h=>by simp at h),fun n h=>by simp at h,Nat.zero_le _⟩
 ·simp [Value.cells] at hcs
  obtain ⟨rfl,rfl,rfl⟩:=hcs;simp only [if_true] at hz
  have hlen:(zs.take len).length=len:=by rw [mP];omega
  refine ⟨zs.take len,?_,fun n hn=>hwz n (List.mem_of_mem_take hn),by rw [hlen];omega⟩
  rw [hlen];refine .sl len _ (some a) cap (fun i => .int k (zs.getD i 0)) hl hm (fun i hi => ?_) (fun i hi => ?_) (fun i hi=>rfl)
  ·have Ce:i<len:=by rw [eI,hlen] at hi;exact hi
   have q1:=aTj (hcell 0 (by omega))
   have q2:=hcell i (by omega)
   rw [q1,Addr.add_lit] at q2
   exact ⟨a.block,a.off,by rw [← q1],World.block_lt_of_cell? W ⟨a.block,a.off+i,none⟩ q2,q2⟩
  ·have Ce:i<len:=by rw [eI,hlen] at hi;exact hi
   simp only [lK,List.getElem_take];have:zs.getD i 0=zs[i]'(by omega):=by rw [Bm,Aq (by omega)];rfl
   rw [this];exact .v _
end
end KV
end Go.Proofs
end
section
namespace Go.Proofs
open Go.ChangeShapes Go.WideShapes Go.ChangeAt Go.RowKit Go.Deep
namespace KV
open Tryz
section
variable {P:Program} {W W':World} {H:Type} {enc:TypeId × Value→H}
end
end KV
end Go.Proofs
end
namespace Go.Proofs
namespace KV
open Tryz
section
section
variable {l:Lqq} {j i:Nat} {xs:List Int} {v:Int}
end
end
end KV
end Go.Proofs
section
namespace Go.Proofs
open Go.RowKit
namespace KV
open Tryz
variable {P:Program} {C C0:Cx} {M M0:Mem} {w w0:World}

def kU(w:World)(b:Nat):Prop:=∃ o:Obj,w.heap[b]? = some o∧o.isCells=true
theorem tQ{b o:Nat}{v:Value}(h:w.cell? ⟨b,o,none⟩=some v):kU w b:=cells_of_cell h
theorem eN{b ty:Nat}{arr:Array Value}{fr:Nat × Nat}(h:w.heap[b]? = some (.cells arr ty fr)):kU w b:=⟨_,h,rfl⟩

mutual
def nmP:PV→Bool
 | .v _=>true
 | .sl _ cs=>jA cs
 | .agg cs=>jA cs
 | .mp _=>false
 | .rp cs _=>jA cs
def jA:List PV→Bool
 | []=>true
 | x::r=>nmP x && jA r
end
theorem oQ:∀ {l:List PV},jA l=true→∀ (i:Nat) (h:i<l.length),nmP l[i]=true
 | [],_,i,h=>by simp at h
 | x::r,hl,i,h=>by
  rw [jA,Bl] at hl
  cases i with
  | zero=>exact hl.1
  | succ i=>exact oQ hl.2 i (by simpa using h)
theorem aBi{α:Type}(g:α→PV)(h:∀ x,nmP (g x)=true):∀ l:List α,jA (l.map g)=true
 | []=>rfl
 | x::r=>by rw [gY,jA,h,aBi g h r];rfl
mutual
def nmA:AV→Bool
 | .p x=>nmP x
 | .rp cs _=>jA cs
 | .agg l=>nmL l
 | .tup l=>nmL l
 | .fn _ a b=>nmL a && nmL b
 | _=>true
def nmL:List AV→Bool
 | []=>true
 | x::r=>nmA x && nmL r
end
theorem tR:∀ {l:List AV},nmL l=true→∀ (i:Nat) (h:i<l.length),nmA l[i]=true
 | [],_,i,h=>by simp at h
 | x::r,hl,i,h=>by
  rw [nmL,Bl] at hl
  cases i with
  | zero=>exact hl.1
  | succ i=>exact tR hl.2 i (by simpa using h)
def nmM:Mem→Bool
 | []=>true
 | some (.row _ _ cs)::r=>jA cs && nmM r
 | some (.box _ l)::r=>nmL l && nmM r
 | _::r=>nmM r
theorem aBj:∀ {m:Mem},nmM m=true→(∀ (i ty n:Nat) (cs:List PV),m[i]? = some (some (.row ty n cs))→jA cs=true)∧∀ (i ty:Nat) (l:List AV),m[i]? = some (some (.box ty l))→nmL l=true
 | [],_=>⟨fun i ty n cs h=>by simp at h,fun i ty l h=>by simp at h⟩
 | x::r,hm=>by
  have hr:nmM r=true:=by
   cases x with
   | none=>exact hm
   | some o=>cases o <;> simp [nmM] at hm <;> first | exact hm.2 | exact hm
  obtain ⟨h1,h2⟩:=aBj hr;refine ⟨fun i ty n cs h => ?_,fun i ty l h => ?_⟩
  ·cases i with
   | zero=>simp at h;subst h;simp [nmM] at hm;exact hm.1
   | succ i=>exact h1 i ty n cs (by simpa using h)
  ·cases i with
   | zero=>simp at h;subst h;simp [nmM] at hm;exact hm.1
   | succ i=>exact h2 i ty l (by simpa using h)
theorem cB.shrink{F F':Nat→Prop}{x:PV}{u:Value}(h:cB F w x u)(hF:∀ b,F b→kU w b→F' b)(hm:nmP x=true):cB F' w x u:=by
 induction h with
 | v x=>exact .v x
 | sl n cs p cap us h1 h2 h3 _ h5 ih =>
  rw [nmP] at hm
  refine .sl n cs p cap us h1 h2 (fun i hi => ?_) (fun i hi=>ih i hi (oQ hm i hi)) h5
  obtain ⟨b,o,hp,hb,hc⟩:=h3 i hi;exact ⟨b,o,hp,hF b hb (tQ hc),hc⟩
 | agg cs vs h0 h1 _ ih =>
  rw [nmP] at hm
  exact .agg cs vs h0 h1 fun i hi=>ih i hi (oQ hm i hi)
 | mp=>simp [nmP] at hm
 | rp cs off b o us h1 _ h3 ih =>
  rw [nmP] at hm
  exact .rp cs off b o us (fun i hi=>⟨hF b (h1 i hi).1 (tQ (h1 i hi).2),(h1 i hi).2⟩) (fun i hi=>ih i hi (oQ hm i hi)) h3
theorem Rep.shrink{F':Nat→Prop}{x:AV}{u:Value}(h:Rep C M w x u)(hF:∀ b,C.F b→kU w b→F' b)(hm:nmA x=true):Rep ⟨C.ι,C.κ,F',[]⟩ M w x u:=by
 induction h with
 | p x u h=>exact .p x u (h.shrink hF (by simpa [nmA] using hm))
 | any u=>exact .any u
 | kb b=>exact .kb b
 | yld l=>exact .yld l
 | own id u h0 ha h=>exact .own id u h0 ha h
 | arr id off n u h0 ha h=>exact .arr id off n u h0 ha h
 | ptr id off u h0 ha h hp=>exact .ptr id off u h0 ha h hp
 | mp id u h0 ha h=>exact .mp id u h0 ha h
 | pa id q u h0 ha h=>exact .pa id q u h0 ha h
 | rp cs off b o us h1 h2 h3 =>
  have Cu:jA cs=true:=by simpa [nmA] using hm
  exact .rp cs off b o us (fun i hi=>⟨hF b (h1 i hi).1 (tQ (h1 i hi).2),(h1 i hi).2⟩) (fun i hi=>(h2 i hi).shrink hF (oQ Cu i hi)) h3
 | agg cs vs h0 h1 _ ih =>
  have Cu:nmL cs=true:=by simpa [nmA] using hm
  exact .agg cs vs h0 h1 fun i hi=>ih i hi (tR Cu i hi)
 | tup cs vs h1 _ ih =>
  have Cu:nmL cs=true:=by simpa [nmA] using hm
  exact .tup cs vs h1 fun i hi=>ih i hi (tR Cu i hi)
 | fn f cs ds us vs h1 h2 _ _ J2 J3 =>
  have Cu:nmL cs=true∧nmL ds=true:=by simpa [nmA] using hm
  exact .fn f cs ds us vs h1 h2 (fun i hi=>J2 i hi (tR Cu.1 i hi)) fun i hi=>J3 i hi (tR Cu.2 i hi)

def xW(M:Mem):Prop:=(∀ (i:Nat) (es:List (Value × PV)) (cl:Nat),M[i]? ≠ some (some (.mp es cl)))∧aMn M
def eU:Mem→Bool
 | []=>true
 | some (.pk _ _ _ _)::_=>false
 | some (.mp _ _)::_=>false
 | _::r=>eU r
theorem dO:∀ {m:Mem},eU m=true→xW m
 | [],_=>⟨fun i es cl h=>by simp at h,fun i o h=>by simp at h⟩
 | none::r,hm=>by
  obtain ⟨h1,h2⟩:=dO (m:=r) hm;refine ⟨fun i es cl h => ?_,fun i o h => ?_⟩
  ·cases i with
   | zero=>simp at h
   | succ i=>exact h1 i es cl (by simpa using h)
  ·cases i with
   | zero=>simp at h
   | succ i=>exact h2 i o (by simpa using h)
 | some x::r,hm=>by
  have hr:eU r=true∧x.isPk=false∧∀ es cl,x ≠ .mp es cl:=by
   cases x with
   | pk=>simp [eU] at hm
   | mp=>simp [eU] at hm
   | _=>exact ⟨by simpa [eU] using hm,rfl,fun _ _ e=>by cases e⟩
  obtain ⟨h1,h2⟩:=dO (m:=r) hr.1;refine ⟨fun i es cl h => ?_,fun i o h => ?_⟩
  ·cases i with
   | zero=>simp at h;exact hr.2.2 _ _ h
   | succ i=>exact h1 i es cl (by simpa using h)
  ·cases i with
   | zero=>simp at h;rw [← h];exact hr.2.1
   | succ i=>exact h2 i o (by simpa using h)

theorem tS{M':Mem}{W:World}(hn:xW M')(hq:nmM M'=true)(hF:∀ b,C.F b→b<w.heap.size){C':Cx}(hM:aP P C' M' W)(f:Fr C M w C' M' W) :
  ∃ C'',aP P C'' M' W∧Fr C M w C'' M' W∧(∀ b,C''.F b→b<w.heap.size∨kU W b):=by
 refine ⟨⟨C'.ι,C'.κ,fun b=>C'.F b∧(b<w.heap.size∨kU W b),[]⟩,⟨fun i ty n cs hm => ?_,fun i ty cs hm => ?_,fun i es cl hm=>absurd hm (hn.1 _ _ _),hM.inj,fun i o b ho hl hb hf=>hM.nF i o b ho hl hb hf.1,fun b hb=>hM.Fs b hb.1,hM.lt⟩,
  ⟨f.os,f.tape,f.out,f.size,f.keep,f.ids,f.row,f.liv,f.new,fun b hb=>⟨f.F1 b hb,.inl (hF b hb)⟩,fun b hb=>f.F2 b hb.1⟩,fun b hb=>hb.2⟩
 ·rcases hM.row _ _ _ _ hm with h4 | ⟨b,arr,inf,q0,q1,q2,q3,q4,q5,q6,q7,q8⟩
  ·exact .inl h4
  ·exact .inr ⟨b,arr,inf,q0,q1,q2,q3,q4,q5,q6,fun j hj=>(q7 j hj).shrink (fun b hb hs=>⟨hb,.inr hs⟩) (oQ ((aBj hq).1 _ _ _ _ hm) j hj),q8⟩
 ·obtain ⟨b,arr,q0,q1,q2,q3,q4⟩:=hM.box _ _ _ hm
  exact ⟨b,arr,q0,q1,q2,fun j hj=>(q3 j hj).shrink (fun b hb hs=>⟨hb,.inr hs⟩) (tR ((aBj hq).2 _ _ _ hm) j hj),q4⟩

def aWl(P:Program)(C:Cx)(M:Mem)(w:World)(M':Mem)(W:World):Prop:=∃ C',aP P C' M' W∧Fr C M w C' M' W

theorem iO{W:World}{b:Nat}{o:Obj}(h:W.heap[b]? = some o)(ho:o.isCells=false):¬ kU W b:=fun ⟨o',h',hc⟩=>by rw [h] at h';cases h';rw [ho] at hc;cases hc

theorem aWl.own{M':Mem}{W W':World}{row:Option Nat}(hn:xW M')(hq:nmM M'=true)(hF:∀ b,C.F b→b<w.heap.size)(h:aWl P C M w M' W)(hg:W.grownBy W' row)
  (hr:∀ r,row=some r→w.heap.size≤r∧∃ o:Obj,W.heap[r]? = some o∧o.isCells=false):aWl P C M w M' W':=by
 obtain ⟨C1,h1,h2⟩:=h;obtain ⟨C',hM,f,hS⟩:=tS hn hq hF h1 h2;have hsame:∀ b,b<W.heap.size→(b<w.heap.size∨kU W b)→W'.heap[b]? = W.heap[b]? := fun b hb hd=>hg.block b hb (fun e=>by
  obtain ⟨q1,o,q2,q3⟩:=hr b e.symm
  rcases hd with hd | hd
  ·omega
  ·exact iO q2 q3 hd)
 have hFz:∀ b,C'.F b→W'.heap[b]? = W.heap[b]? := fun b hb=>hsame b (hM.Fs b hb) (hS b hb)
 have hL:Le C' C' M' M' W W':=⟨fun _ o h=>⟨o,h⟩,fun _ _ _ _ _ cs h=>⟨cs,h⟩,fun _ o h o' h' hl=>by rw [h] at h';cases h';exact ⟨hl,rfl,rfl⟩,fun _ h=>h,hFz⟩
 refine ⟨C',⟨fun i ty n cs hm => ?_,fun i ty cs hm => ?_,fun i es cl hm=>absurd hm (hn.1 _ _ _),hM.inj,hM.nF,fun b hb=>Cg (hM.Fs b hb) hg.size,fun i o b ho hl hb=>Cg (hM.lt i o b ho hl hb) hg.size⟩,
  ⟨hg.os.trans f.os,hg.tape.trans f.tape,hg.output.trans f.out,fM f.size hg.size,fun b hb hno=>(hsame b (Cg hb f.size) (.inl hb)).trans (f.keep b hb hno),f.ids,f.row,f.liv,f.new,f.F1,f.F2⟩⟩
 ·rcases hM.row _ _ _ _ hm with h4 | ⟨b,arr,inf,q0,q1,q2,q3,q4,q5,q6,q7,q8⟩
  ·exact .inl h4
  ·exact .inr ⟨b,arr,inf,q0,(hsame b (Dz.1 q1).1 (.inr (eN q1))).trans q1,q2,q3,q4,q5,q6,fun j hj=>(q7 j hj).mono hL.F hL.fz,q8⟩
 ·obtain ⟨b,arr,q0,q1,q2,q3,q4⟩:=hM.box _ _ _ hm
  exact ⟨b,arr,q0,(hsame b (Dz.1 q1).1 (.inr (eN q1))).trans q1,q2,fun j hj=>(q3 j hj).mono hL,q4⟩

structure KpG (F:Nat→Prop) (A B:World):Prop where
 size:A.heap.size≤B.heap.size
 same:∀ b,F b→B.heap[b]? = A.heap[b]?
theorem KpG.refl(F:Nat→Prop)(A:World):KpG F A A:=⟨dH _,fun _ _=>rfl⟩
theorem KpG.trans{F:Nat→Prop}{A B D:World}(h:KpG F A B)(k:KpG F B D):KpG F A D:=⟨fM h.size k.size,fun b hb=>(k.same b hb).trans (h.same b hb)⟩

def bPa(P:Program){α:Type}(g:AV)(encs:α→Array Value)(gf N:Nat)(S:List α→Prop):Prop:=∀ (C:Cx) (M:Mem) (w:World) (u:Value),Rep C M w g u→(∀ b,C.F b→b<w.heap.size) →
 ∃ lb Sp,u = .func (.func gf) #[] lb∧SeqStopsK Fence.wide 2 P gf lb encs (KpG C.F) S Sp N w

theorem bDk{ro:Option Nat}{n:Nat}:(Fen ro).room n:=fun d hd=>by cases hd
theorem aBk{ro:Option Nat}{n m:Nat}{c:Code}{Q:Exit→Act→World→Prop}{a:Act}(h:c.wpIn (Fen ro) n P Q a w):c.wpIn (Fen ro) m P Q a w:=fun b k cs hro hb _=>h b k cs hro hb bDk

theorem aGw{C:Cx}{M:Mem}{W:World}(hM:aP P C M W)(hn:xW M){b:Nat}{o:Obj}(h:W.heap[b]? = some o)(ho:o.isCells=false):∀ (id:Nat) (x:AO),M[id]? = some (some x)→x.live=true→C.ι id≠some b:=fun id x hx hl hb=>by
 cases x with
 | row ty n cs =>
  rcases hM.row _ _ _ _ hx with ⟨h1,_⟩ | ⟨b',arr,i,h1,h2,_⟩
  ·rw [hb] at h1;cases h1
  ·rw [hb] at h1;cases h1;exact iO h ho (eN h2)
 | box ty cs =>
  obtain ⟨b',arr,h1,h2,_⟩:=hM.box _ _ _ hx;rw [hb] at h1;cases h1;exact iO h ho (eN h2)
 | mp es cl=>exact hn.1 _ _ _ hx
 | pk to ti sz L=>have:=hn.2 _ _ hx;cases this
 | dead=>cases hl

theorem L6(p q:Nat)(a b:Value)(t:Array Value):(#[p,q].zip #[a,b]).foldl (fun t (x:Nat × Value)=>t.setIfInBounds x.1 x.2) t=(t.setIfInBounds p a).setIfInBounds q b:=by simp

end KV
end Go.Proofs
end
namespace Go.Proofs
namespace KV
open Tryz
section

theorem aG.count{P:Program}{k:Nat}{b:Code}{e:Ex}{R:St}(N:Nat)(S:Nat→St)(hs:∀ i,i<N→aC P k b (S i) .normal (S (i+1)))(hx:aC P k b (S N) e R)(he:e ≠ .normal):aG P k b (S 0) e R:=by
 have key:∀ d i,i+d=N→aG P k b (S i) e R:=by
  intro d
  induction d with
  | zero =>
   intro i hi;obtain rfl:i=N:=by omega
   exact .exit hx he
  | succ d ih=>intro i hi;exact .step (hs i (by omega)) (ih (i+1) (by omega))
 exact key N 0 (by omega)

theorem aG.until{P:Program}{k:Nat}{b:Code}{e:Ex}{R:St}(N:Nat)(S:Nat→St)(n:Nat)(hn:n≤N)(hs:∀ i,i<n→aC P k b (S i) .normal (S (i+1)))(hx:aC P k b (S n) e R)(he:e ≠ .normal):aG P k b (S 0) e R:=aG.count n S hs hx he

def cD(l:List Int):List (Value × PV):=l.map fun k=>(.int .i64 k,blP true)
theorem aBg(l:List Int)(k:Int):cD (l++[k])=cD l++[(.int .i64 k,blP true)]:=by unfold cD;rw [fL];rfl
theorem mS{n:Int}(hn : -1000000≤n∧n≤1000000):aJn .i64 (.int .i64 n)=true:=by
 show (decide (IntKind.i64=IntKind.i64) && (Lit.int .i64 n).wf)=true;have:(Lit.int .i64 n).wf=true:=by
  have e1:IntKind.i64.min = -9223372036854775808:=rfl;have e2:IntKind.i64.max=9223372036854775807:=rfl;simp only [Lit.wf,e1,e2,Bl,decide_eq_true_eq];omega
 rw [this];rfl
theorem aBh{l:List Int}(hn:l.Nodup)(hb:∀ x∈l,-1000000≤x∧x≤1000000){x:Int}(hx : -1000000≤x∧x≤1000000):bQ .i64 (cD l) (.int .i64 x):=by
 refine ⟨fun e he => ?_,mS hx,?_⟩
 ·obtain ⟨y,hy,rfl⟩:=dS.1 he
  exact mS (hb y hy)
 ·unfold cD
  rw [qK];have:l.map ((fun e:Value × PV=>gW e.1) ∘ fun k=>(Value.int .i64 k,blP true))=l:=by
   conv=>rhs;rw [← List.map_id l]
   exact yL fun x _=>rfl
  rw [this];exact hn
theorem aKk{l:List Int}{x:Int}(h:x∉l):cW (cD l) (.int .i64 x)=false:=by
 unfold cW;rw [List.any_eq_false];intro e he;obtain ⟨y,hy,rfl⟩:=dS.1 he;intro h2;have h3:y=x:=of_decide_eq_true h2;exact h (h3 ▸ hy)
theorem bDj{l:List Int}{x:Int}(h:x∈l):cW (cD l) (.int .i64 x)=true:=by
 unfold cW;rw [List.any_eq_true];exact ⟨_,dS.2 ⟨x,h,rfl⟩,decide_eq_true rfl⟩

theorem aWk{l:List Int}{x:Int}(h:x∈l):eP (cD l) (.int .i64 x)=some (blP true):=by
 induction l with
 | nil=>cases h
 | cons a l ih =>
  by_cases e:a=x
  ·subst e;simp [cD,eP]
  ·have h2:x∈l:=by rcases gX.1 h with h | h;exact absurd h.symm e;exact h
   have:=ih h2;simpa [cD,eP,gW,e] using this
def within(n lo hi:Int):Bool:=decide (lo≤n) && decide (n≤hi)
def aM(f:Lqq)(j:Nat):List Int:=f.map fun x=>x.getD j 0
theorem A8{y:List Int}(h:y.length=6):∃ a b c d e f,y=[a,b,c,d,e,f]:=by
 match y,h with
 | [a,b,c,d,e,f],_=>exact ⟨a,b,c,d,e,f,rfl⟩
theorem at2{f:Lqq}(hu:uni 2 f){i:Nat}(hi:i<f.length):∃ a b,f[i]? = some [a,b]:=by
 obtain ⟨a,b,e⟩:=len2 (hu _ (gJ hi));exact ⟨a,b,by rw [Aq hi,e]⟩
theorem Qx{f:Lqq}(hu:uni 6 f){i:Nat}(hi:i<f.length):∃ a b c d e g,f[i]? = some [a,b,c,d,e,g]:=by
 obtain ⟨a,b,c,d,e,g,h⟩:=A8 (hu _ (gJ hi));exact ⟨a,b,c,d,e,g,by rw [Aq hi,h]⟩
end
section
section
variable {α:Type}

def mv(A:List α)(x:α)(j:Nat)(R:List α):List α:=A.take j++x::(A.drop j++R)

theorem wL(A:List α)(x:α)(j:Nat)(R:List α)(hj:j≤A.length):(mv A x j R).length=A.length+1+R.length:=by
 unfold mv;simp;omega

theorem aGt(A:List α)(x:α)(j:Nat)(R:List α)(hj:j≤A.length)(t:Nat) :
  (mv A x j R)[t]? = if t<j then A[t]? else if t=j then some x else if t≤A.length then A[t-1]? else R[t-A.length-1]? := by
 unfold mv
 by_cases h1:t<j
 ·rw [if_pos h1,aAz (by simp;omega),List.getElem?_take_of_lt h1]
 ·rw [if_neg h1,aAy (by simp;omega)]
  have hl:(A.take j).length=j:=by simp;omega
  rw [hl]
  by_cases h2:t=j
  ·rw [if_pos h2,show t-j=0 by omega];rfl
  ·rw [if_neg h2,show t-j=(t-j-1)+1 by omega,List.getElem?_cons_succ]
   by_cases h3:t≤A.length
   ·rw [if_pos h3,aAz (by simp;omega),List.getElem?_drop]
    congr 1;omega
   ·rw [if_neg h3,aAy (by simp;omega)]
    congr 1
    simp;omega

theorem bIe(A:List α)(x:α)(j:Nat)(R:List α)(hj:j≤A.length)(h0:0<j)(y:α)(hy:A[j-1]? = some y) :
  ((mv A x j R).set j y).set (j-1) x=mv A x (j-1) R:=by
 have hl:=wL A x j R hj;apply List.ext_getElem?;intro t;rw [List.getElem?_set,List.getElem?_set,aGt A x (j-1) R (by omega),aGt A x j R hj]
 simp only [tM,hl]
 by_cases h1:j-1=t
 ·subst h1
  rw [if_pos rfl,if_pos (by omega),if_neg (by omega),if_pos rfl]
 ·rw [if_neg h1]
  by_cases h2:j=t
  ·subst h2
   rw [if_pos rfl,if_pos (by omega),if_neg (by omega),if_neg (by omega),if_pos (by omega),hy]
  ·rw [if_neg h2]
   by_cases h3:t<j
   ·rw [if_pos h3,if_pos (by omega)]
   ·rw [if_neg h3,if_neg (by omega:¬ t=j),if_neg (by omega:¬ t<j-1),if_neg (by omega:¬ t=j-1)]

def kQ(lt:α→α→Bool)(x:α)(A:List α):Nat:=(A.reverse.dropWhile (lt x)).length
def ins(lt:α→α→Bool)(A:List α)(x:α):List α:=A.take (kQ lt x A)++x::A.drop (kQ lt x A)
def isort(lt:α→α→Bool)(l:List α):List α:=l.foldl (ins lt) []

theorem kJ{p:α→Bool}:∀ (l r:List α),(∀ x∈l,p x=true)→(l++r).dropWhile p=r.dropWhile p
 | [],_,_=>rfl
 | x::l,r,h=>by
  rw [List.cons_append,List.dropWhile_cons,if_pos (h x (by simp))]
  exact kJ l r (fun y hy=>h y (by simp [hy]))

theorem aEs(lt:α→α→Bool)(x:α)(A:List α)(j:Nat)(hj:j≤A.length)(h:∀ t (_:t<A.length),j≤t→lt x A[t]=true)
  (h2:j=0∨∃ y,A[j-1]? = some y∧lt x y=false):kQ lt x A=j:=by
 unfold kQ;have e:A.reverse=(A.drop j).reverse++(A.take j).reverse:=by rw [← List.reverse_append,aVc]
 rw [e,kJ]
 ·rcases h2 with h0 | ⟨y,hy,hlt⟩
  ·subst h0;simp
  ·by_cases h0:j=0
   ·subst h0;simp
   ·have e2:A.take j=A.take (j-1)++[y]:=by
     rw [show j=(j-1)+1 by omega,List.take_add_one,Nat.add_sub_cancel,hy];rfl
    have hl:(A.take (j-1)).length=j-1:=by simp;omega
    rw [e2,List.reverse_append];show ((y::(A.take (j-1)).reverse).dropWhile (lt x)).length=j;rw [List.dropWhile_cons,hlt];simp;omega
 ·intro z hz
  rw [aBb] at hz
  obtain ⟨t,ht,rfl⟩:=List.getElem_of_mem hz;rw [List.getElem_drop];exact h (j+t) (by simp at ht;omega) (by omega)

theorem aOb(lt:α→α→Bool)(A:List α)(x:α):(ins lt A x).length=A.length+1:=by
 unfold ins;simp;have:kQ lt x A≤A.length:=by
  unfold kQ;have h2:((A.reverse).dropWhile (lt x)).length≤A.reverse.length:=(List.dropWhile_sublist _).length_le;simpa using h2
 omega

theorem bOz(A:List α)(x:α)(R:List α):mv A x A.length R=A++x::R:=by unfold mv;simp
theorem bDh(lt:α→α→Bool)(A:List α)(x:α)(R:List α):mv A x (kQ lt x A) R=ins lt A x++R:=by unfold mv ins;simp

theorem vD(lt:α→α→Bool)(l:List α):(isort lt l).length=l.length:=by
 unfold isort;have:∀ (l A:List α),(l.foldl (ins lt) A).length=A.length+l.length:=by
  intro l
  induction l with
  | nil=>intro A;simp
  | cons x r ih=>intro A;rw [tN,ih,aOb];simp;omega
 rw [this];simp

theorem aOc(lt:α→α→Bool)(l:List α)(k:Nat)(h:k<l.length):isort lt (l.take (k+1))=ins lt (isort lt (l.take k)) l[k]:=by
 unfold isort;rw [List.take_succ_eq_append_getElem h,aBa];rfl
end
theorem Eh{x:List Int}(h:x.length=3):∃ a b c,x=[a,b,c]:=by
 match x,h with
 | [a,b,c],_=>exact ⟨a,b,c,rfl⟩
theorem wM{α:Type}(lt:α→α→Bool)(l:List α)(y:α):y∈isort lt l↔y∈l:=by
 unfold isort;have : ∀ (l A:List α),y∈l.foldl (ins lt) A↔y∈A∨y∈l:=by
  intro l
  induction l with
  | nil=>intro A;simp
  | cons x r ih =>
   intro A;rw [tN,ih];have:y∈ins lt A x↔y∈A∨y=x:=by
    unfold ins;rw [iE,gX];constructor
    ·rintro (h | h | h)
     ·exact Or.inl (List.mem_of_mem_take h)
     ·exact Or.inr h
     ·exact Or.inl (List.mem_of_mem_drop h)
    ·rintro (h | h)
     ·rw [← aVc (kQ lt x A) A,iE] at h
      rcases h with h | h
      ·exact Or.inl h
      ·exact Or.inr (Or.inr h)
     ·exact Or.inr (Or.inl h)
   rw [this,gX];constructor
   ·rintro ((h | h) | h) <;> simp [h]
   ·rintro (h | h | h) <;> simp [h]
 rw [this];simp

section
variable {α:Type}
theorem wN(lt:α→α→Bool)(A:List α)(x:α):∃ B D:List α,A=B++D∧ins lt A x=B++x::D∧(∀ d∈D,lt x d=true)∧(B=[]∨∃ B' h,B=B'++[h]∧lt x h=false):=by
 have hA:A=(A.reverse.dropWhile (lt x)).reverse++(A.reverse.takeWhile (lt x)).reverse:=by
  rw [← List.reverse_append,List.takeWhile_append_dropWhile,List.reverse_reverse]
 generalize hdw:A.reverse.dropWhile (lt x)=dw at hA
 generalize htw:A.reverse.takeWhile (lt x)=tw at hA
 have hp:kQ lt x A=dw.reverse.length:=by unfold kQ;rw [hdw,List.length_reverse]
 refine ⟨dw.reverse,tw.reverse,hA,?_,fun d hd => ?_,?_⟩
 ·unfold ins
  rw [hp]
  conv=>lhs;rw [hA]
  rw [List.take_left',List.drop_left'] <;> rfl
 ·rw [aBb,← htw] at hd
  exact fU.1 List.all_takeWhile d hd
 ·cases dw with
  | nil=>exact .inl rfl
  | cons h r =>
   refine .inr ⟨r.reverse,h,by simp,?_⟩
   have:=List.head_dropWhile_not (lt x) (l:=A.reverse) (by rw [hdw];simp)
   simp only [hdw,List.head_cons] at this
   simpa using this
theorem bDi(lt:α→α→Bool)(A:List α)(x:α):(ins lt A x).Perm (x::A):=by
 obtain ⟨B,D,h1,h2,_⟩:=wN lt A x;rw [h2,h1];exact List.perm_middle
theorem aOd{f:α→Int}{lt:α→α→Bool}(hlt:∀ x y,lt x y=decide (f x<f y)){A:List α}(x:α)(hs:A.Pairwise (fun a b=>f a≤f b)):(ins lt A x).Pairwise (fun a b=>f a≤f b):=by
 obtain ⟨B,D,rfl,h2,h3,h4⟩:=wN lt A x;rw [h2];obtain ⟨s1,s2,s3⟩:=List.pairwise_append.1 hs;have hB:∀ b∈B,f b≤f x:=fun b hb=>by
  rcases h4 with rfl | ⟨B',h,rfl,hx⟩
  ·simp at hb
  ·rw [hlt,decide_eq_false_iff_not] at hx
   rcases iE.1 hb with hb | hb
   ·have:=(List.pairwise_append.1 s1).2.2 b hb h (by simp)
    omega
   ·simp at hb;subst hb;omega
 have hD:∀ d∈D,f x≤f d:=fun d hd=>by
  have:=h3 d hd;rw [hlt,decide_eq_true_eq] at this
  omega
 refine List.pairwise_append.2 ⟨s1,bHs.2 ⟨hD,s2⟩,fun a ha b hb => ?_⟩
 rcases gX.1 hb with rfl | hb
 ·exact hB a ha
 ·exact s3 a ha b hb
theorem aGu{f:α→Int}{lt:α→α→Bool}(hlt:∀ x y,lt x y=decide (f x<f y))(l:List α):(isort lt l).Pairwise (fun a b=>f a≤f b):=by
 unfold isort;have:∀ (l A:List α),A.Pairwise (fun a b=>f a≤f b)→(l.foldl (ins lt) A).Pairwise (fun a b=>f a≤f b):=by
  intro l
  induction l with
  | nil=>intro A h;exact h
  | cons x r ih=>intro A h;rw [tN];exact ih _ (aOd hlt x h)
 exact this l [] .nil
end
section
variable {α:Type}
theorem aOe{f g:α→Int}{lt:α→α→Bool}(hlt:∀ x y,lt x y=decide (f x<f y)){A:List α}(x:α)(hs:A.Pairwise (fun a b=>f a<f b∨f a=f b∧g a<g b))(hg:∀ a∈A,g a<g x):(ins lt A x).Pairwise (fun a b=>f a<f b∨f a=f b∧g a<g b):=by
 obtain ⟨B,D,rfl,h2,h3,h4⟩:=wN lt A x;rw [h2];obtain ⟨s1,s2,s3⟩:=List.pairwise_append.1 hs;have hB:∀ b∈B,f b≤f x:=fun b hb=>by
  rcases h4 with rfl | ⟨B',h,rfl,hx⟩
  ·simp at hb
  ·rw [hlt,decide_eq_false_iff_not] at hx
   rcases iE.1 hb with hb | hb
   ·have:=(List.pairwise_append.1 s1).2.2 b hb h (by simp)
    omega
   ·simp at hb;subst hb;omega
 have hD:∀ d∈D,f x<f d:=fun d hd=>by
  have:=h3 d hd
  rwa [hlt,decide_eq_true_eq] at this
 refine List.pairwise_append.2 ⟨s1,bHs.2 ⟨fun d hd => .inl (hD d hd),s2⟩,fun a ha b hb => ?_⟩
 rcases gX.1 hb with rfl | hb
 ·have h5:=hB a ha
  have h6:=hg a (nR _ ha)
  by_cases e:f a=f b
  ·exact .inr ⟨e,h6⟩
  ·exact .inl (by omega)
 ·exact s3 a ha b hb
theorem aGv{f g:α→Int}{lt:α→α→Bool}(hlt:∀ x y,lt x y=decide (f x<f y))(l:List α)(hl:l.Pairwise (fun a b=>g a<g b)):(isort lt l).Pairwise (fun a b=>f a<f b∨f a=f b∧g a<g b):=by
 unfold isort;have:∀ (l A:List α),l.Pairwise (fun a b=>g a<g b)→(∀ a∈A,∀ x∈l,g a<g x)→A.Pairwise (fun a b=>f a<f b∨f a=f b∧g a<g b)→(l.foldl (ins lt) A).Pairwise (fun a b=>f a<f b∨f a=f b∧g a<g b):=by
  intro l
  induction l with
  | nil=>intro A _ _ h;exact h
  | cons x r ih =>
   intro A hl hA h;obtain ⟨h1,h2⟩:=bHs.1 hl;rw [tN];refine ih _ h2 (fun a ha y hy => ?_) (aOe hlt x h (fun a ha=>hA a ha x (jQ ..)))
   rcases gX.1 ((bDi lt A x).mem_iff.1 ha) with rfl | ha
   ·exact h1 y hy
   ·exact hA a ha y (Cj _ hy)
 exact this l [] hl (fun a ha=>by simp at ha) .nil
end
end
section
variable {j x y A3 Aj A6 A7 A9 Bf:Int}{L M l:Lqq}{i base:Nat}

noncomputable abbrev aKj:Code:=sub (cd Tryz.f214) [1,0,0,1,0,0,1,0,0]
noncomputable abbrev aRv:Code:=sub (cd Tryz.f214) [1,0,0]
theorem bOt{r0:Bool}(An:r0=(x != x)):FV Tp 124 [(pI x)] base (pB r0) []:=by
 subst An;exact FV.fi func124 [] gn
theorem wK(x:Int){base:Nat}:FV Tp 124 [.p (aA x)] base (pB false) []:=bOt (by simp)
theorem bOu(h0:x<y):FV Tp 62 [(pI x),(pI y)] base (pI (-1)) []:=FV.fi func62 [.c (pB false) [],.c (pB false) [],bF,bF,bT] (gc (bU h0) (gf (gf (gc (fk 0 (wK y) rfl) (gc (fk 0 (wK x) rfl) gn)))))
theorem bOv(h0:y≤x)(h1:y<x):FV Tp 62 [(pI x),(pI y)] base (pI 1) []:=FV.fi func62 [.c (pB false) [],.c (pB false) [],bF,bF,bF,bT] (gc (bU h1) (gc (aS h0) (gf (gf (gc (fk 0 (wK y) rfl) (gc (fk 0 (wK x) rfl) gn))))))
theorem bOw(h0:y≤x)(h1:x≤y):FV Tp 62 [(pI x),(pI y)] base (pI 0) []:=FV.fi func62 [.c (pB false) [],.c (pB false) [],bF,bF,bF,bF] (gc (aS h1) (gc (aS h0) (gf (gf (gc (fk 0 (wK y) rfl) (gc (fk 0 (wK x) rfl) gn))))))
def gL(x y:Int):Int:=if x<y then -1 else if y<x then 1 else 0
theorem aNu(x y:Int){base:Nat}:FV Tp 62 [.p (aA x),.p (aA y)] base (pI (gL x y)) []:=by
 unfold gL
 by_cases h1:x<y
 ·rw [if_pos h1];exact bOu h1
 ·rw [if_neg h1]
  by_cases h2:y<x
  ·rw [if_pos h2];exact bOv (by omega) h2
  ·rw [if_neg h2];exact bOw (by omega) (by omega)
def ltK(f:Nat)(x y:List Int):Bool:=decide (gL (x.getD f 0) (y.getD f 0)<0)
theorem bDg(f:Nat)(x y:List Int):ltK f x y=decide (x.getD f 0<y.getD f 0):=by
 unfold ltK gL;rw [decide_eq_decide]
 split
 ·omega
 ·split <;> omega
theorem aRw{a0 a1 a2 b0 b1 b2 r0:Int}(An:r0=(gL a2 b2)):FV Tp 97 [(.p (.agg [(aA a0),(aA a1),(aA a2)])),(.p (.agg [(aA b0),(aA b1),(aA b2)]))] base (pI r0) []:=by
 subst An;have k1:=fk 2 (aNu a2 b2) rfl;exact FV.fi func97 [k1.o] (gc k1 gn)
def mI(l:Lqq)(i:Nat)(Ln:Nat)(Lc:List PV):St:=⟨fr 53 [(0,(.own 0)),(1,(pI 0)),(2,(pI (l.length:Int))),(3,(.fn 97 [] [])),(8,(pI (i:Int)))],[some (.row 63 Ln Lc)]⟩
theorem aRx{Av:Nat}{L'1:Lqq}(hl0:aG Tp 1 aRv (mI l 1 l.length (l.flatten.map aA)) (.exit 0) (mI l Av L'1.length (L'1.flatten.map aA))):FMM Tp 214 [(.own 0),(pI 0),(pI (l.length:Int)),(.fn 97 [] [])] [some (.row 63 l.length (l.flatten.map aA))] (.tup []) [some (.row 63 L'1.length (L'1.flatten.map aA))]:=FMM.fi 1 gE func214 [hl0.k 3 (gZ [4,4,9,44])] (gc hl0.code (gt (inR 1) (by show _∧_;omega) gn))
def kE(l:Lqq)(i:Nat)(j:Int)(Mn:Nat)(Mc:List PV):St:=⟨fr 53 [(0,(.own 0)),(1,(pI 0)),(2,(pI (l.length:Int))),(3,(.fn 97 [] [])),(8,(pI (i:Int))),(9,(pI j)),(12,(pI (i:Int))),(13,(pI (l.length:Int))),(14,(pB (decide ((i:Int)<(l.length:Int))))),(17,(pI (i:Int)))],[some (.row 63 Mn Mc)]⟩
theorem aNv{F6:Int}{M'101:Lqq}{i':Nat}{L':Lqq}(h0:(i:Int)<(l.length:Int))(A4:aG Tp 1 aKj (kE l i (i:Int) L.length (L.flatten.map aA)) (.exit 2) (kE l i F6 M'101.length (M'101.flatten.map aA)))(h2:co i)(Ak:i'=(i+1))(Gl:L'.length=M'101.length)(Gm:L'.flatten.map aA=(M'101.flatten.map aA)):aC Tp 1 aRv (mI l i L.length (L.flatten.map aA)) .normal (mI l i' L'.length (L'.flatten.map aA)):=by
 subst Ak;rw [Gl,Gm];exact aC.fi (gZ [4,4,9,44]) [bT,A4.k 5 (gZ bt)] (gc h2 (gc A4.code (g0 h0)))
theorem aBf(h0:(l.length:Int)≤(i:Int)):aC Tp 1 aRv (mI l i L.length (L.flatten.map aA)) (.exit 0) (mI l i L.length (L.flatten.map aA)):=aC.fi (gZ [4,4,9,44]) [bF] (gc (aS h0) gn)
section
variable(h0:(0:Int)<j)(h1:M[j.toNat]? = some [A3,Aj,A6])(h2:0≤j)(h3:uni 3 M)(h4:inR (j-1))(h5:M[(j-1).toNat]? = some [A7,A9,Bf])(h6:0≤(j-1))
include h0 h1 h2 h3 h4 h5 h6
theorem aNw{j':Int}{M':Lqq}(h7:(gL A6 Bf)<0)(h8:[(aA A7),(aA A9),(aA Bf)].length=3∧(j.toNat*3)+3≤(M.flatten.map aA).length)(h9:0≤(j-1)∧(j-1)<(M.length:Int))(A5:[(aA A3),(aA Aj),(aA A6)].length=3∧((j-1).toNat*3)+3≤((M.flatten.map aA).take (j.toNat*3)++[(aA A7),(aA A9),(aA Bf)]++(M.flatten.map aA).drop ((j.toNat*3)+3)).length)(D7:j'=(j-1))(O7:M'.length=M.length)(O8:M'.flatten.map aA=(((M.flatten.map aA).take (j.toNat*3)++[(aA A7),(aA A9),(aA Bf)]++(M.flatten.map aA).drop ((j.toNat*3)+3)).take ((j-1).toNat*3)++[(aA A3),(aA Aj),(aA A6)]++((M.flatten.map aA).take (j.toNat*3)++[(aA A7),(aA A9),(aA Bf)]++(M.flatten.map aA).drop ((j.toNat*3)+3)).drop (((j-1).toNat*3)+3))):aC Tp 1 aKj (kE l i j M.length (M.flatten.map aA)) .normal (kE l i j' M'.length (M'.flatten.map aA)):=by
 subst D7;rw [O7,O8];exact aC.fi (gZ bt) (rT 5++[.x (.agg [(aA A3),(aA Aj),(aA A6)])]++rT 5++[.x (.agg [(aA A7),(aA A9),(aA Bf)]),bT,.c (pI (gL A6 Bf)) [],bT,bT,bT,.x (.agg [(aA A7),(aA A9),(aA Bf)]),.x (.agg [(aA A3),(aA Aj),(aA A6)])]) (gc h4 (gc A5 (gc h9 (gc h8 (gc (cF (i:=j) h2 h1) (gc (eG (i:=j.toNat) h3 h1) (gc (gG (i:=j.toNat) h3 h1) (gc (cF (i:=j) h2 h1) (gc (eG (i:=(j-1).toNat) h3 h5) (gc (gG (i:=(j-1).toNat) h3 h5) (gc (cF (i:=(j-1)) h6 h5) (Bn h4 (gc (bU h7) (Bn (bU h0) (gt (FC Tp 97 [(.p (.agg [(aA A3),(aA Aj),(aA A6)])),(.p (.agg [(aA A7),(aA A9),(aA Bf)]))] [] 1 (pI (gL A6 Bf)) []) (FV.fc (aRw rfl) rfl) (gc (bU h0) (gc (eG (i:=(j-1).toNat) h3 h5) (gc (gG (i:=(j-1).toNat) h3 h5) (gc (bU h0) (gc (cF (i:=(j-1)) h6 h5) (gc (bU h0) (gc h4 (Aw (bU h0) (gc (eG (i:=j.toNat) h3 h1) (gc (gG (i:=j.toNat) h3 h1) (gc (bU h0) (gc (cF (i:=j) h2 h1) (Aw (bU h0) (g0 h0)))))))))))))))))))))))))))))
theorem aNx(h7:(0:Int)≤(gL A6 Bf)):aC Tp 1 aKj (kE l i j M.length (M.flatten.map aA)) (.exit 2) (kE l i j M.length (M.flatten.map aA)):=aC.fi (gZ bt) (rT 5++[.x (.agg [(aA A3),(aA Aj),(aA A6)])]++rT 5++[.x (.agg [(aA A7),(aA A9),(aA Bf)]),bT,.c (pI (gL A6 Bf)) [],bT,bT,bF]) (gc (aS h7) (Bn (bU h0) (gt (FC Tp 97 [(.p (.agg [(aA A3),(aA Aj),(aA A6)])),(.p (.agg [(aA A7),(aA A9),(aA Bf)]))] [] 1 (pI (gL A6 Bf)) []) (FV.fc (aRw rfl) rfl) (gc (bU h0) (gc (eG (i:=(j-1).toNat) h3 h5) (gc (gG (i:=(j-1).toNat) h3 h5) (gc (bU h0) (gc (cF (i:=(j-1)) h6 h5) (gc (bU h0) (gc h4 (Aw (bU h0) (gc (eG (i:=j.toNat) h3 h1) (gc (gG (i:=j.toNat) h3 h1) (gc (bU h0) (gc (cF (i:=j) h2 h1) (Aw (bU h0) (g0 h0)))))))))))))))))
end
theorem aNy(h0:j≤0):aC Tp 1 aKj (kE l i j M.length (M.flatten.map aA)) (.exit 2) (kE l i j M.length (M.flatten.map aA)):=aC.fi (gZ bt) (rF 13) (J8 (aS h0) (Dp (aS h0) gn))
theorem bOx(l:Lqq)(i:Nat)(A R:Lqq)(hA:A.length<1000)(hi:i=A.length)(x0 x1 x2:Int)(hu:uni 3 (A++[x0,x1,x2]::R)):∀ m,m≤A.length→(∀ t (h:t<A.length),m≤t→ltK 2 [x0,x1,x2] A[t]=true) →
  aG Tp 1 aKj (kE l i (m:Int) (mv A [x0,x1,x2] m R).length ((mv A [x0,x1,x2] m R).flatten.map aA)) (.exit 2) (kE l i (kQ (ltK 2) [x0,x1,x2] A:Int) (ins (ltK 2) A [x0,x1,x2]++R).length ((ins (ltK 2) A [x0,x1,x2]++R).flatten.map aA)):=by
 have huA:∀ y∈A,y.length=3:=fun y hy=>hu y (nR _ hy)
 have huM:∀ m,uni 3 (mv A [x0,x1,x2] m R):=fun m y hy=>by
  unfold mv at hy
  rcases iE.1 hy with h | h
  ·exact huA y (List.mem_of_mem_take h)
  ·rcases gX.1 h with rfl | h
   ·rfl
   ·rcases iE.1 h with h | h
    ·exact huA y (List.mem_of_mem_drop h)
    ·exact hu y (aDb _ (Cj _ h))
 intro m
 induction m with
 | zero =>
  intro _ hlt;have e:=aEs (ltK 2) [x0,x1,x2] A 0 (Nat.zero_le _) hlt (.inl rfl);rw [← bDh,e];exact .exit (aNy (by simp)) (by simp)
 | succ m ih =>
  intro hm hlt;have hy:=Aq (show m<A.length by omega)
  generalize A[m]=y at hy
  obtain ⟨y0,y1,y2,rfl⟩:=Eh (huA y (Bi hy));have e1:((m+1:Nat):Int).toNat=m+1:=by omega
  have e2:(((m+1:Nat):Int)-1).toNat=m:=by omega
  have hl:=wL A [x0,x1,x2] (m+1) R hm;have g1:(mv A [x0,x1,x2] (m+1) R)[m+1]? = some [x0,x1,x2]:=by rw [aGt A _ _ R hm];simp
  have g2:(mv A [x0,x1,x2] (m+1) R)[m]? = some [y0,y1,y2]:=by rw [aGt A _ _ R hm,if_pos (by omega)];exact hy
  by_cases hc:gL x2 y2<0
  ·have st:=vC (k:=3) (i:=m+1) (x:=[y0,y1,y2]) (huM (m+1)) (by omega) rfl
   have Gj:uni 3 ((mv A [x0,x1,x2] (m+1) R).set (m+1) [y0,y1,y2]):=aRs (huM _) rfl;have st2:=vC (k:=3) (i:=m) (x:=[x0,x1,x2]) Gj (by rw [tM];omega) rfl
   have gm:((mv A [x0,x1,x2] (m+1) R).set (m+1) [y0,y1,y2])[m]? = some [y0,y1,y2]:=by rw [List.getElem?_set,if_neg (by omega)];exact g2
   have hsw:=bIe A [x0,x1,x2] (m+1) R hm (by omega) [y0,y1,y2] (by simpa using hy)
   rw [Nat.add_sub_cancel] at hsw
   simp only [gY,List.map_nil] at st st2
   refine .step (aNw (j:=((m+1:Nat):Int)) (j':=(m:Int)) (M':=mv A [x0,x1,x2] m R) (by omega) (by rw [e1];exact g1) (by omega) (huM _) (by show _∧_;omega) (by rw [e2];exact g2) (by omega) hc ⟨rfl,by rw [e1];exact gG (huM _) g1⟩ ⟨by omega,by omega⟩ ⟨rfl,?_⟩ (by omega) (by rw [hl,wL A _ _ R (by omega)]) ?_) (ih (by omega) fun t ht h1 => ?_)
   ·rw [e1,e2,st];exact gG Gj gm
   ·rw [e1,e2,st,st2,hsw]
   ·by_cases h2:t=m
    ·subst h2
     have h3:=hy;rw [Aq ht,Option.some.injEq] at h3
     rw [h3];simpa [ltK] using hc
    ·exact hlt t ht (by omega)
  ·have e:=aEs (ltK 2) [x0,x1,x2] A (m+1) hm hlt (.inr ⟨[y0,y1,y2],by simpa using hy,by simpa [ltK] using hc⟩)
   rw [← bDh,e];exact .exit (aNx (by omega) (by rw [e1];exact g1) (by omega) (huM _) (by show _∧_;omega) (by rw [e2];exact g2) (by omega) (by omega)) (by simp)
theorem bIa(l:Lqq)(hu:uni 3 l)(hn:l.length<1000):FMM Tp 214 [.own 0,.p (aA 0),.p (aA (l.length:Int)),.fn 97 [] []] [some (.row 63 l.length (l.flatten.map aA))] (.tup []) [some (.row 63 (isort (ltK 2) l).length ((isort (ltK 2) l).flatten.map aA))]:=by
 have hui:∀ i,uni 3 (isort (ltK 2) (l.take i)):=fun i y hy=>hu y (List.mem_of_mem_take ((wM (ltK 2) _ y).1 hy))
 have key:∀ d i,i+d=l.length→1≤i→aG Tp 1 aRv (mI l i (isort (ltK 2) (l.take i)++l.drop i).length ((isort (ltK 2) (l.take i)++l.drop i).flatten.map aA)) (.exit 0) (mI l l.length (isort (ltK 2) l).length ((isort (ltK 2) l).flatten.map aA)):=by
  intro d
  induction d with
  | zero =>
   intro i hi _;obtain rfl:i=l.length:=by omega
   rw [List.take_length,List.drop_length,List.append_nil];exact .exit (aBf (by omega)) (by simp)
  | succ d ih =>
   intro i hi h1;have hlt:i<l.length:=by omega
   have hx:=hu l[i] (gJ hlt);generalize hxx:l[i]=x at hx
   obtain ⟨x0,x1,x2,rfl⟩:=Eh hx;have hAl:(isort (ltK 2) (l.take i)).length=i:=by rw [vD,mP];omega
   have hdr:l.drop i=[x0,x1,x2]::l.drop (i+1):=by rw [bDb hlt,hxx]
   have hin:=bOx l i (isort (ltK 2) (l.take i)) (l.drop (i+1)) (by omega) hAl.symm x0 x1 x2 (by
    intro y hy
    rcases iE.1 hy with h | h
    ·exact hui i y h
    ·rcases gX.1 h with rfl | h
     ·rfl
     ·exact hu y (List.mem_of_mem_drop h)) i (by omega) (fun t ht h2=>by omega)
   have hmv:mv (isort (ltK 2) (l.take i)) [x0,x1,x2] i (l.drop (i+1))=isort (ltK 2) (l.take i)++l.drop i:=by
    have:=bOz (isort (ltK 2) (l.take i)) [x0,x1,x2] (l.drop (i+1));rw [hAl] at this;rw [this,hdr]
   have hsn:=aOc (ltK 2) l i hlt;rw [hxx] at hsn
   rw [hmv,← hsn] at hin
   exact .step (aNv (by omega) hin (by show _∧_;omega) rfl rfl rfl) (ih (i+1) (by omega) (by omega))
 rcases Nat.eq_zero_or_pos l.length with h0 | hp
 ·have:l=[]:=aDa h0
  subst this;exact aRx (aG.exit (aBf (l:=[]) (L:=[]) (i:=1) (by simp)) (by simp))
 ·have:=key (l.length-1) 1 (by omega) (by omega)
  have e1:isort (ltK 2) (l.take 1)++l.drop 1=l:=by
   cases l with
   | nil=>simp at hp
   | cons x r=>simp [isort,ins,kQ]
  rw [e1] at this
  exact aRx this
def yY(l:Lqq)  : St:=⟨fr 63 [(0,(.own 0)),(1,(pI (l.length:Int))),(2,(.fn 97 [] [])),(6,(pI 20)),(7,(pI 0)),(8,(pI 20))],[some (.row 63 l.length (l.flatten.map aA))]⟩
def yZ(l:Lqq)  : St:=⟨fr 63 [(0,(.own 0)),(1,(pI (l.length:Int))),(2,(.fn 97 [] [])),(6,(pI 20)),(7,(pI 0)),(8,(pI 20))],[some (.row 63 ((isort (ltK 2) l).length) ((isort (ltK 2) l).flatten.map aA))]⟩
theorem bIb(hl0:aG Tp 1 (sub (cd Tryz.f166) ce) (yY l ) (.exit 0) (yY l ))(h1:uni 3 l)(h2:l.length<1000)(Cd:aG Tp 1 (sub (cd Tryz.f166) c9) (yZ l ) (.exit 2) (yZ l )):FMM Tp 166 [(.own 0),(pI (l.length:Int)),(.fn 97 [] [])] [some (.row 63 l.length (l.flatten.map aA))] (.tup []) [some (.row 63 ((isort (ltK 2) l).length) ((isort (ltK 2) l).flatten.map aA))]:=have k1:=mq [0] 1 (bIa l h1 h2);FMM.fi 1 gE func166 [hl0.k 6 (gZ [3,3,10,13,27,1,43,1,60,1]),k1.o,Cd.k 1 (gZ [3,3,10,53])] (gc Cd.code (gc k1 (gc hl0.code gn)))
theorem aNz(h0:(l.length:Int)<20):aC Tp 1 (sub (cd Tryz.f166) ce) (yY l ) (.exit 0) (yY l ):=aC.fi (gZ [3,3,10,13,27,1,43,1,60,1]) [bF] (gc (kT h0) gn)
theorem aOa(h0:(l.length:Int)≤20):aC Tp 1 (sub (cd Tryz.f166) c9) (yZ l ) (.exit 2) (yZ l ):=aC.fi (gZ [3,3,10,53]) [bF] (gc (aS h0) gn)
theorem bIc(l:Lqq)(hu:uni 3 l)(hn:l.length<20):FMM Tp 166 [.own 0,.p (aA (l.length:Int)),.fn 97 [] []] [some (.row 63 l.length (l.flatten.map aA))] (.tup []) [some (.row 63 (isort (ltK 2) l).length ((isort (ltK 2) l).flatten.map aA))] := 
 bIb (aG.exit (aNz (by omega)) (by simp)) hu (by omega) (aG.exit (aOa (by omega)) (by simp))
theorem bId(h0:uni 3 l)(h1:l.length<20):FMM Tp 96 [(.own 0),(.fn 97 [] [])] [some (.row 63 l.length (l.flatten.map aA))] (.tup []) [some (.row 63 ((isort (ltK 2) l).length) ((isort (ltK 2) l).flatten.map aA))]:=have k1:=mq [0] 1 (bIc l h0 h1);FMM.fi 1 gE func96 [k1.o] (gc k1 gn)
theorem bOy(l:Lqq)(hu:uni 3 l)(hn:l.length<20):FMM Tp 96 [.own 0,.fn 97 [] []] [some (.row 63 l.length (l.flatten.map aA))] (.tup []) [some (.row 63 (isort (ltK 2) l).length ((isort (ltK 2) l).flatten.map aA))]:=bId hu hn
end
section
variable {r0:Bool}{n dl hi lo x0 x1 x2 x3 x4 x5 Ag Aa Ab:Int}{dc sk:Lqq}{l m o o' Hp D6:List Int}{i i' Av base:Nat}

noncomputable abbrev aBl:Code:=sub (cd Tryz.f203) [1,1,0,1,0,0]
noncomputable abbrev aRy:Code:=sub (cd Tryz.f135) [1,1,0,1,0,0]
noncomputable abbrev aRz:Code:=sub (cd Tryz.f204) [1,1,0,1,0,0]
theorem bVe(h0:lo≤n)(An:r0=(decide (n≤hi))):FV Tp 198 [(pI n),(pI lo),(pI hi)] base (pB r0) []:=by
 subst An;exact FV.fi func198 [bT,bT,bT,bT] (Ba (yN h0) gn)
theorem bVf(h0:n<lo):FV Tp 198 [(pI n),(pI lo),(pI hi)] base (pB false) []:=FV.fi func198 [bF,bF,bF,bF] (Ba (kT h0) gn)
theorem bL(n lo hi:Int){base:Nat}:FV Tp 198 [.p (aA n),.p (aA lo),.p (aA hi)] base (pB (within n lo hi)) []:=by
 by_cases h:lo≤n
 ·exact bVe h (by simp [within,h])
 ·have e:within n lo hi=false:=by simp [within,h]
  rw [e];exact bVf (show n<lo by omega)
theorem bPb{k:Int}(An:r0=(decide (k≤4))):FV Tp 180 [(pI k)] base (pB r0) []:=by
 subst An;exact FV.fi func180 [] gn
theorem dU(k:Int){base:Nat}:FV Tp 180 [.p (aA k)] base (pB (decide (k≤4))) []:=bPb rfl
theorem bPc(h0:(within x0 1 999)=true)(An:r0=(within x1 (-1) 360000)):FV Tp 200 [(.p (.agg [(aA x0),(aA x1)]))] base (pB r0) []:=by
 subst An;have k1:=fk 1 (bL x0 1 999) rfl;have k2:=fk 1 (bL x1 (-1) 360000) rfl;exact FV.fi func200 [k1.o,bT,bT,bT,k2.o,bT] (gc h0 (gc k2 (Aw h0 (gc k1 gn))))
theorem bPd(h0:(within x0 1 999)=false):FV Tp 200 [(.p (.agg [(aA x0),(aA x1)]))] base (pB false) []:=have k1:=fk 1 (bL x0 1 999) rfl;FV.fi func200 [k1.o,bF,bF,bF,bF] (Ba h0 (gc k1 gn))
def skB(x:List Int):Bool:=within (x.getD 0 0) 1 999 && within (x.getD 1 0) (-1) 360000
theorem bPe(x0 x1:Int){base:Nat}:FV Tp 200 [.p (.agg [aA x0,aA x1])] base (pB (skB [x0,x1])) []:=by
 cases h:within x0 1 999 with
 | true=>exact bPc h (show (within x0 1 999 && _)=_ by rw [h];rfl)
 | false=>rw [show skB [x0,x1]=false from show (within x0 1 999 && _)=_ by rw [h];rfl];exact bPd h
def lP(k:Int):Int:=if k=3∨¬ k≤4∧k≠6 then 0 else 36000
def dcB(x:List Int):Bool:=within (x.getD 0 0) 1 9999 && (within (x.getD 1 0) 0 9 && (within (x.getD 2 0) 0 10000 && within (x.getD 4 0) 0 (lP (x.getD 1 0))))
abbrev dcE(a b c d e f:Int):PV := .agg [aA a,aA b,aA c,aA d,aA e,aA f]
theorem gM(a b c d e f:Int):dcB [a,b,c,d,e,f]=(within a 1 9999 && (within b 0 9 && (within c 0 10000 && within e 0 (lP b)))):=rfl
section
variable(h0:x1=3)(h1:(within x0 1 9999)=true)
include h0 h1
theorem bPf(h2:(within x1 0 9)=true)(h3:(within x2 0 10000)=true)(An:r0=(within x4 0 0)):FV Tp 202 [(.p (.agg [(aA x0),(aA x1),(aA x2),(aA x3),(aA x4),(aA x5)]))] base (pB r0) []:=by
 subst An;have k1:=fk 1 (bL x0 1 9999) rfl;have k2:=fk 1 (bL x1 0 9) rfl;have k3:=fk 1 (bL x2 0 10000) rfl;have k4:=fk 1 (bL x4 0 0) rfl;exact FV.fi func202 (rT 7++[k1.o,bT,bT,bT,k2.o,bT,bT,bT,bT,k3.o]++rT 5++[k4.o,bT]) (gc h3 (gc k4 (Ba h3 (gc h2 (gc k3 (Aw h2 (gc h1 (gc k2 (Aw h1 (gc k1 (Hm (eJ h0) gn)))))))))))
theorem bPg(h2:(within x1 0 9)=true)(h3:(within x2 0 10000)=false):FV Tp 202 [(.p (.agg [(aA x0),(aA x1),(aA x2),(aA x3),(aA x4),(aA x5)]))] base (pB false) []:=have k1:=fk 1 (bL x0 1 9999) rfl;have k2:=fk 1 (bL x1 0 9) rfl;have k3:=fk 1 (bL x2 0 10000) rfl;FV.fi func202 (rT 7++[k1.o,bT,bT,bT,k2.o,bT,bT,bT,bT,k3.o,bT]++rF 5) (Dp h3 (gc h2 (gc k3 (Aw h2 (gc h1 (gc k2 (Aw h1 (gc k1 (Hm (eJ h0) gn)))))))))
theorem bPh(h2:(within x1 0 9)=false):FV Tp 202 [(.p (.agg [(aA x0),(aA x1),(aA x2),(aA x3),(aA x4),(aA x5)]))] base (pB false) []:=have k1:=fk 1 (bL x0 1 9999) rfl;have k2:=fk 1 (bL x1 0 9) rfl;FV.fi func202 (rT 7++[k1.o,bT,bT,bT,k2.o,bT,bF,bF,bF,bF]) (Ba h2 (gc h1 (gc k2 (Aw h1 (gc k1 (Hm (eJ h0) gn))))))
end
theorem bPi(h0:x1=3)(h1:(within x0 1 9999)=false):FV Tp 202 [(.p (.agg [(aA x0),(aA x1),(aA x2),(aA x3),(aA x4),(aA x5)]))] base (pB false) []:=have k1:=fk 1 (bL x0 1 9999) rfl;FV.fi func202 (rT 7++[k1.o,bF,bF,bF,bF]) (Ba h1 (gc k1 (Hm (eJ h0) gn)))
section
variable(h0:x1≠3)(h1:(decide (x1≤4))=false)
include h0 h1
theorem bPj(h2:x1≠6)(h3:(within x0 1 9999)=true)(h4:(within x1 0 9)=true)(h5:(within x2 0 10000)=true)(An:r0=(within x4 0 0)):FV Tp 202 [(.p (.agg [(aA x0),(aA x1),(aA x2),(aA x3),(aA x4),(aA x5)]))] base (pB r0) []:=by
 subst An;have k1:=fk 1 (dU x1) rfl;have k2:=fk 1 (bL x0 1 9999) rfl;have k3:=fk 1 (bL x1 0 9) rfl;have k4:=fk 1 (bL x2 0 10000) rfl;have k5:=fk 1 (bL x4 0 0) rfl;exact FV.fi func202 ([bF,bF,bF,k1.o,bF,bF,bT,bT,bT,bF,bT,bF,bT,k2.o,bT,bT,bT,k3.o,bT,bT,bT,bT,k4.o]++rT 5++[k5.o,bT]) (gc h5 (gc k5 (Ba h5 (gc h4 (gc k4 (Aw h4 (gc h3 (gc k3 (Aw h3 (gc k2 (gc (qL h2) (gc (bI h0) (gc (cE h1) (gc (bI h0) (Aw (cE h1) (Bn (bI h0) (gc k1 (Aw (bI h0) gn))))))))))))))))))
theorem bPk(h2:x1≠6)(h3:(within x0 1 9999)=true)(h4:(within x1 0 9)=true)(h5:(within x2 0 10000)=false):FV Tp 202 [(.p (.agg [(aA x0),(aA x1),(aA x2),(aA x3),(aA x4),(aA x5)]))] base (pB false) []:=have k1:=fk 1 (dU x1) rfl;have k2:=fk 1 (bL x0 1 9999) rfl;have k3:=fk 1 (bL x1 0 9) rfl;have k4:=fk 1 (bL x2 0 10000) rfl;FV.fi func202 ([bF,bF,bF,k1.o,bF,bF,bT,bT,bT,bF,bT,bF,bT,k2.o,bT,bT,bT,k3.o,bT,bT,bT,bT,k4.o,bT]++rF 5) (Dp h5 (gc h4 (gc k4 (Aw h4 (gc h3 (gc k3 (Aw h3 (gc k2 (gc (qL h2) (gc (bI h0) (gc (cE h1) (gc (bI h0) (Aw (cE h1) (Bn (bI h0) (gc k1 (Aw (bI h0) gn))))))))))))))))
theorem bPl(h2:x1≠6)(h3:(within x0 1 9999)=true)(h4:(within x1 0 9)=false):FV Tp 202 [(.p (.agg [(aA x0),(aA x1),(aA x2),(aA x3),(aA x4),(aA x5)]))] base (pB false) []:=have k1:=fk 1 (dU x1) rfl;have k2:=fk 1 (bL x0 1 9999) rfl;have k3:=fk 1 (bL x1 0 9) rfl;FV.fi func202 [bF,bF,bF,k1.o,bF,bF,bT,bT,bT,bF,bT,bF,bT,k2.o,bT,bT,bT,k3.o,bT,bF,bF,bF,bF] (Ba h4 (gc h3 (gc k3 (Aw h3 (gc k2 (gc (qL h2) (gc (bI h0) (gc (cE h1) (gc (bI h0) (Aw (cE h1) (Bn (bI h0) (gc k1 (Aw (bI h0) gn)))))))))))))
theorem bPm(h2:x1≠6)(h3:(within x0 1 9999)=false):FV Tp 202 [(.p (.agg [(aA x0),(aA x1),(aA x2),(aA x3),(aA x4),(aA x5)]))] base (pB false) []:=have k1:=fk 1 (dU x1) rfl;have k2:=fk 1 (bL x0 1 9999) rfl;FV.fi func202 [bF,bF,bF,k1.o,bF,bF,bT,bT,bT,bF,bT,bF,bT,k2.o,bF,bF,bF,bF] (Ba h3 (gc k2 (gc (qL h2) (gc (bI h0) (gc (cE h1) (gc (bI h0) (Aw (cE h1) (Bn (bI h0) (gc k1 (Aw (bI h0) gn))))))))))
theorem bPn(h2:x1=6)(h3:(within x0 1 9999)=true)(h4:(within x1 0 9)=true)(h5:(within x2 0 10000)=true)(An:r0=(within x4 0 36000)):FV Tp 202 [(.p (.agg [(aA x0),(aA x1),(aA x2),(aA x3),(aA x4),(aA x5)]))] base (pB r0) []:=by
 subst An;have k1:=fk 1 (dU x1) rfl;have k2:=fk 1 (bL x0 1 9999) rfl;have k3:=fk 1 (bL x1 0 9) rfl;have k4:=fk 1 (bL x2 0 10000) rfl;have k5:=fk 1 (bL x4 0 36000) rfl;exact FV.fi func202 ([bF,bF,bF,k1.o,bF,bF,bT,bT,bT,bF,bT,bF,bF,k2.o,bT,bT,bT,k3.o,bT,bT,bT,bT,k4.o]++rT 5++[k5.o,bT]) (gc h5 (gc k5 (Ba h5 (gc h4 (gc k4 (Aw h4 (gc h3 (gc k3 (Aw h3 (gc k2 (gc (eY h2) (gc (bI h0) (gc (cE h1) (gc (bI h0) (Aw (cE h1) (Bn (bI h0) (gc k1 (Aw (bI h0) gn))))))))))))))))))
theorem bPo(h2:x1=6)(h3:(within x0 1 9999)=true)(h4:(within x1 0 9)=true)(h5:(within x2 0 10000)=false):FV Tp 202 [(.p (.agg [(aA x0),(aA x1),(aA x2),(aA x3),(aA x4),(aA x5)]))] base (pB false) []:=have k1:=fk 1 (dU x1) rfl;have k2:=fk 1 (bL x0 1 9999) rfl;have k3:=fk 1 (bL x1 0 9) rfl;have k4:=fk 1 (bL x2 0 10000) rfl;FV.fi func202 ([bF,bF,bF,k1.o,bF,bF,bT,bT,bT,bF,bT,bF,bF,k2.o,bT,bT,bT,k3.o,bT,bT,bT,bT,k4.o,bT]++rF 5) (Dp h5 (gc h4 (gc k4 (Aw h4 (gc h3 (gc k3 (Aw h3 (gc k2 (gc (eY h2) (gc (bI h0) (gc (cE h1) (gc (bI h0) (Aw (cE h1) (Bn (bI h0) (gc k1 (Aw (bI h0) gn))))))))))))))))
theorem bIf(h2:x1=6)(h3:(within x0 1 9999)=true)(h4:(within x1 0 9)=false):FV Tp 202 [(.p (.agg [(aA x0),(aA x1),(aA x2),(aA x3),(aA x4),(aA x5)]))] base (pB false) []:=have k1:=fk 1 (dU x1) rfl;have k2:=fk 1 (bL x0 1 9999) rfl;have k3:=fk 1 (bL x1 0 9) rfl;FV.fi func202 [bF,bF,bF,k1.o,bF,bF,bT,bT,bT,bF,bT,bF,bF,k2.o,bT,bT,bT,k3.o,bT,bF,bF,bF,bF] (Ba h4 (gc h3 (gc k3 (Aw h3 (gc k2 (gc (eY h2) (gc (bI h0) (gc (cE h1) (gc (bI h0) (Aw (cE h1) (Bn (bI h0) (gc k1 (Aw (bI h0) gn)))))))))))))
theorem bIg(h2:x1=6)(h3:(within x0 1 9999)=false):FV Tp 202 [(.p (.agg [(aA x0),(aA x1),(aA x2),(aA x3),(aA x4),(aA x5)]))] base (pB false) []:=have k1:=fk 1 (dU x1) rfl;have k2:=fk 1 (bL x0 1 9999) rfl;FV.fi func202 [bF,bF,bF,k1.o,bF,bF,bT,bT,bT,bF,bT,bF,bF,k2.o,bF,bF,bF,bF] (Ba h3 (gc k2 (gc (eY h2) (gc (bI h0) (gc (cE h1) (gc (bI h0) (Aw (cE h1) (Bn (bI h0) (gc k1 (Aw (bI h0) gn))))))))))
end
section
variable(h0:x1≠3)(h1:(decide (x1≤4))=true)(h2:(within x0 1 9999)=true)
include h0 h1 h2
theorem bIh(h3:(within x1 0 9)=true)(h4:(within x2 0 10000)=true)(An:r0=(within x4 0 36000)):FV Tp 202 [(.p (.agg [(aA x0),(aA x1),(aA x2),(aA x3),(aA x4),(aA x5)]))] base (pB r0) []:=by
 subst An;have k1:=fk 1 (dU x1) rfl;have k2:=fk 1 (bL x0 1 9999) rfl;have k3:=fk 1 (bL x1 0 9) rfl;have k4:=fk 1 (bL x2 0 10000) rfl;have k5:=fk 1 (bL x4 0 36000) rfl;exact FV.fi func202 ([bF,bF,bF,k1.o]++rF 8++[k2.o,bT,bT,bT,k3.o,bT,bT,bT,bT,k4.o]++rT 5++[k5.o,bT]) (gc h4 (gc k5 (Ba h4 (gc h3 (gc k4 (Aw h3 (gc h2 (gc k3 (Aw h2 (gc k2 (gc (bI h0) (gc (aW h1) (gc (bI h0) (Aw (aW h1) (Bn (bI h0) (gc k1 (Aw (bI h0) gn)))))))))))))))))
theorem bIi(h3:(within x1 0 9)=true)(h4:(within x2 0 10000)=false):FV Tp 202 [(.p (.agg [(aA x0),(aA x1),(aA x2),(aA x3),(aA x4),(aA x5)]))] base (pB false) []:=have k1:=fk 1 (dU x1) rfl;have k2:=fk 1 (bL x0 1 9999) rfl;have k3:=fk 1 (bL x1 0 9) rfl;have k4:=fk 1 (bL x2 0 10000) rfl;FV.fi func202 ([bF,bF,bF,k1.o]++rF 8++[k2.o,bT,bT,bT,k3.o,bT,bT,bT,bT,k4.o,bT]++rF 5) (Dp h4 (gc h3 (gc k4 (Aw h3 (gc h2 (gc k3 (Aw h2 (gc k2 (gc (bI h0) (gc (aW h1) (gc (bI h0) (Aw (aW h1) (Bn (bI h0) (gc k1 (Aw (bI h0) gn)))))))))))))))
theorem bIj(h3:(within x1 0 9)=false):FV Tp 202 [(.p (.agg [(aA x0),(aA x1),(aA x2),(aA x3),(aA x4),(aA x5)]))] base (pB false) []:=have k1:=fk 1 (dU x1) rfl;have k2:=fk 1 (bL x0 1 9999) rfl;have k3:=fk 1 (bL x1 0 9) rfl;FV.fi func202 ([bF,bF,bF,k1.o]++rF 8++[k2.o,bT,bT,bT,k3.o,bT,bF,bF,bF,bF]) (Ba h3 (gc h2 (gc k3 (Aw h2 (gc k2 (gc (bI h0) (gc (aW h1) (gc (bI h0) (Aw (aW h1) (Bn (bI h0) (gc k1 (Aw (bI h0) gn))))))))))))
end
theorem bIk(h0:x1≠3)(h1:(decide (x1≤4))=true)(h2:(within x0 1 9999)=false):FV Tp 202 [(.p (.agg [(aA x0),(aA x1),(aA x2),(aA x3),(aA x4),(aA x5)]))] base (pB false) []:=have k1:=fk 1 (dU x1) rfl;have k2:=fk 1 (bL x0 1 9999) rfl;FV.fi func202 ([bF,bF,bF,k1.o]++rF 8++[k2.o,bF,bF,bF,bF]) (Ba h2 (gc k2 (gc (bI h0) (gc (aW h1) (gc (bI h0) (Aw (aW h1) (Bn (bI h0) (gc k1 (Aw (bI h0) gn)))))))))
theorem bPp(x0 x1 x2 x3 x4 x5:Int){base:Nat}:FV Tp 202 [.p (dcE x0 x1 x2 x3 x4 x5)] base (pB (dcB [x0,x1,x2,x3,x4,x5])) []:=by
 by_cases h3:x1=3
 ·have hm:lP x1=0:=by unfold lP;rw [if_pos (.inl h3)]
  cases C6:within x0 1 9999 with
  | false=>rw [gM,C6,Bool.false_and];exact bPi h3 C6
  | true =>
  cases Dr:within x1 0 9 with
  | false=>rw [gM,C6,Dr,hZ,Bool.false_and];exact bPh h3 C6 Dr
  | true =>
  cases Ej:within x2 0 10000 with
  | false=>rw [gM,C6,Dr,Ej,hZ,hZ,Bool.false_and];exact bPg h3 C6 Dr Ej
  | true =>
  rw [gM,C6,Dr,Ej,hZ,hZ,hZ,hm];exact bPf h3 C6 Dr Ej rfl
 by_cases h4:x1≤4
 ·have hm:lP x1=36000:=by unfold lP;rw [if_neg (by omega)]
  have G5:decide (x1≤4)=true:=by simpa using h4
  cases C6:within x0 1 9999 with
  | false=>rw [gM,C6,Bool.false_and];exact bIk h3 G5 C6
  | true =>
  cases Dr:within x1 0 9 with
  | false=>rw [gM,C6,Dr,hZ,Bool.false_and];exact bIj h3 G5 C6 Dr
  | true =>
  cases Ej:within x2 0 10000 with
  | false=>rw [gM,C6,Dr,Ej,hZ,hZ,Bool.false_and];exact bIi h3 G5 C6 Dr Ej
  | true =>
  rw [gM,C6,Dr,Ej,hZ,hZ,hZ,hm];exact bIh h3 G5 C6 Dr Ej rfl
 have G5:decide (x1≤4)=false:=by simpa using h4
 by_cases h6:x1=6
 ·have hm:lP x1=36000:=by unfold lP;rw [if_neg (by omega)]
  cases C6:within x0 1 9999 with
  | false=>rw [gM,C6,Bool.false_and];exact bIg h3 G5 h6 C6
  | true =>
  cases Dr:within x1 0 9 with
  | false=>rw [gM,C6,Dr,hZ,Bool.false_and];exact bIf h3 G5 h6 C6 Dr
  | true =>
  cases Ej:within x2 0 10000 with
  | false=>rw [gM,C6,Dr,Ej,hZ,hZ,Bool.false_and];exact bPo h3 G5 h6 C6 Dr Ej
  | true =>
  rw [gM,C6,Dr,Ej,hZ,hZ,hZ,hm];exact bPn h3 G5 h6 C6 Dr Ej rfl
 have hm:lP x1=0:=by unfold lP;rw [if_pos (by omega)]
 cases C6:within x0 1 9999 with
 | false=>rw [gM,C6,Bool.false_and];exact bPm h3 G5 h6 C6
 | true =>
 cases Dr:within x1 0 9 with
 | false=>rw [gM,C6,Dr,hZ,Bool.false_and];exact bPl h3 G5 h6 C6 Dr
 | true =>
 cases Ej:within x2 0 10000 with
 | false=>rw [gM,C6,Dr,Ej,hZ,hZ,Bool.false_and];exact bPk h3 G5 h6 C6 Dr Ej
 | true =>
 rw [gM,C6,Dr,Ej,hZ,hZ,hZ,hm];exact bPj h3 G5 h6 C6 Dr Ej rfl

def mJ(l:List Int)(i:Nat)(me:List (Value × PV))(mk:Nat):St:=⟨fr 19 [(3,(.mp 0)),(7,(.p (aH l))),(8,(pI (l.length:Int))),(9,(pI (i:Int)))],[some (.mp me mk)]⟩
theorem bVg(hl0:aG Tp 0 aBl (mJ l 0 [] 0) (.exit 0) (mJ l Av (cD Hp) Hp.length)):FV Tp 203 [(.p (aH l))] base (pB false) []:=FV.fi func203 [hl0.k 8 (gI c6 [0])] (gc hl0.code gn)
theorem bVh(hl0:aG Tp 0 aBl (mJ l 0 [] 0) .ret (cQ (mJ l Av (cD Hp) Hp.length) [(2,(.kb true))])):FV Tp 203 [(.p (aH l))] base (pB true) []:=FV.fi func203 [hl0.k 8 (gI c6 [0])] (gc hl0.code gn)
section
variable(h0:(i:Int)<(l.length:Int))(h1:l[i]? = some Ag)(h2:bQ .i64 (cD m) (.int .i64 Ag))
include h0 h1 h2
theorem bDl{Ab:Bool}(h3:(cW (cD m) (.int .i64 Ag))=true)(h4:eP (cD m) (.int .i64 Ag)=some (blP Ab))(h5:Ab=true):aC Tp 0 aBl (mJ l i (cD m) m.length) .ret (cQ (mJ l i (cD m) m.length) [(2,(.kb true))]):=aC.fi (gI c7 [0]) [bT,.x (aA Ag),bT,.x (blP Ab),bT] (gc h5 (gc h4 (gc h3 (gc h2 (gc (atm aA h1) (gc (ixn aA h1) (g0 h0)))))))
theorem bDm{m':List Int}(h3:(cW (cD m) (.int .i64 Ag))=false)(h4:co i)(Ak:i'=(i+1))(Kg:cD m'=((cD m)++[((.int .i64 Ag),(blP true))]))(Kh:m'.length=(m.length+1)):aC Tp 0 aBl (mJ l i (cD m) m.length) .normal (mJ l i' (cD m') m'.length):=by
 subst Ak;rw [Kg,Kh];exact aC.fi (gI c6 [0]) [bT,.x (aA Ag),bF,bF,bF] (gc h4 (gc h3 (gc h2 (gf (gc h3 (gc h2 (gc (atm aA h1) (gc (ixn aA h1) (g0 h0)))))))))
end
theorem bDn(h0:(l.length:Int)≤(i:Int)):aC Tp 0 aBl (mJ l i (cD m) m.length) (.exit 0) (mJ l i (cD m) m.length):=aC.fi (gI c6 [0]) [bF] (gc (aS h0) gn)
def qO(sk:Lqq)(i:Nat)(on:Nat)(oc:List PV):St:=⟨fr 20 [(2,(.p dZ)),(3,(.own 0)),(7,(.p (fS sk))),(8,(pI (sk.length:Int))),(9,(pI (i:Int)))],[some (.row 3 on oc)]⟩
theorem bPq(hl0:aG Tp 0 aRy (qO sk 0 0 []) (.exit 0) (qO sk Av D6.length (D6.map aA))):FV Tp 135 [(.p (.agg [(aA dl),(fS sk),(fS dc)]))] base (.own base) [(base,(.row 3 D6.length (D6.map aA)))]:=FV.fi func135 [hl0.k 8 (gN c7 [1] [(3,3)])] (gc hl0.code gn)
theorem aWm(h0:(i:Int)<(sk.length:Int))(h1:sk[i]? = some [Aa,Ab])(h2:uni 2 sk)(h3:[(aA Aa)].length=1*1∧o.length+1≤1000000)(h4:co i)(Ak:i'=(i+1))(Cw:o'.length=(o.length+1))(Cy:o'.map aA=((o.map aA)++[(aA Aa)])):aC Tp 0 aRy (qO sk i o.length (o.map aA)) .normal (qO sk i' o'.length (o'.map aA)):=by
 subst Ak;rw [Cw,Cy];exact aC.fi (gI c7 [3]) [bT,.x (.agg [(aA Aa),(aA Ab)])] (gc h4 (gc h3 (gfl h2 h1 (g0 h0))))
theorem aWn(h0:(sk.length:Int)≤(i:Int)):aC Tp 0 aRy (qO sk i o.length (o.map aA)) (.exit 0) (qO sk i o.length (o.map aA)):=aC.fi (gI c7 [0]) [bF] (gc (aS h0) gn)
def qP(dc:Lqq)(i:Nat)(on:Nat)(oc:List PV):St:=⟨fr 20 [(2,(.p dZ)),(3,(.own 0)),(7,(.p (fS dc))),(8,(pI (dc.length:Int))),(9,(pI (i:Int)))],[some (.row 3 on oc)]⟩
theorem bPr(hl0:aG Tp 0 aRz (qP dc 0 0 []) (.exit 0) (qP dc Av D6.length (D6.map aA))):FV Tp 204 [(.p (.agg [(aA dl),(fS sk),(fS dc)]))] base (.own base) [(base,(.row 3 D6.length (D6.map aA)))]:=FV.fi func204 [hl0.k 8 (gN c7 [1] [(3,3)])] (gc hl0.code gn)
theorem aWo{Ac Ad Ae Af:Int}(h0:(i:Int)<(dc.length:Int))(h1:dc[i]? = some [Aa,Ab,Ac,Ad,Ae,Af])(h2:uni 6 dc)(h3:[(aA Aa)].length=1*1∧o.length+1≤1000000)(h4:co i)(Ak:i'=(i+1))(Cw:o'.length=(o.length+1))(Cy:o'.map aA=((o.map aA)++[(aA Aa)])):aC Tp 0 aRz (qP dc i o.length (o.map aA)) .normal (qP dc i' o'.length (o'.map aA)):=by
 subst Ak;rw [Cw,Cy];exact aC.fi (gI c7 [3]) [bT,.x (.agg [(aA Aa),(aA Ab),(aA Ac),(aA Ad),(aA Ae),(aA Af)])] (gc h4 (gc h3 (gfl h2 h1 (g0 h0))))
theorem aWp(h0:(dc.length:Int)≤(i:Int)):aC Tp 0 aRz (qP dc i o.length (o.map aA)) (.exit 0) (qP dc i o.length (o.map aA)):=aC.fi (gI c7 [0]) [bF] (gc (aS h0) gn)
theorem aSa(l:List Int)(hl:l.length≤1000)(hb:∀ x∈l,-1000000≤x∧x≤1000000):∀ (d i:Nat),i+d=l.length→(l.take i).Nodup →
  (l.Nodup∧aG Tp 0 aBl (mJ l i (cD (l.take i)) (l.take i).length) (.exit 0) (mJ l l.length (cD l) l.length))∨(¬ l.Nodup∧∃ i' m',aG Tp 0 aBl (mJ l i (cD (l.take i)) (l.take i).length) .ret (cQ (mJ l i' (cD m') m'.length) [(2,.kb true)]))
 | 0,i,h,hn=>by
  obtain rfl:i=l.length:=by omega
  rw [List.take_length] at hn ⊢
  exact .inl ⟨hn,.exit (bDn (by omega)) (by simp)⟩
 | d+1,i,h,hn=>by
  have hi:i<l.length:=by omega
  have hx:l[i]? = some l[i]:=Aq hi;have et:l.take (i+1)=l.take i++[l[i]]:=by rw [List.take_add_one,hx];rfl
  have hk:=aBh hn (fun x hx=>hb x (List.mem_of_mem_take hx)) (hb _ (gJ hi))
  by_cases hm:l[i]∈l.take i
  ·refine .inr ⟨fun hnd => ?_,i,l.take i,.exit (bDl (by omega) hx hk (bDj hm) (aWk hm) rfl) (by simp)⟩
   obtain ⟨j,hj,e⟩:=List.mem_iff_getElem.1 hm;rw [mP] at hj
   rw [List.getElem_take] at e
   exact List.pairwise_iff_getElem.1 hnd j i (by omega) hi (by omega) e
  ·have Oq:(l.take (i+1)).Nodup:=by
    rw [et,List.nodup_append];exact ⟨hn,by simp,fun a ha b hb e=>hm (by simp at hb;rw [← hb,← e];exact ha)⟩
   have hstep:=bDm (m:=l.take i) (m':=l.take (i+1)) (i':=i+1) (by omega) hx hk (aKk hm) (aN (by omega)) rfl (by rw [et,aBg]) (by simp;omega)
   rcases aSa l hl hb d (i+1) (by omega) Oq with ⟨q1,q2⟩ | ⟨q1,i',m',q2⟩
   ·exact .inl ⟨q1,.step hstep q2⟩
   ·exact .inr ⟨q1,i',m',.step hstep q2⟩
theorem vE(l:List Int)(hl:l.length≤1000)(hb:∀ x∈l,-1000000≤x∧x≤1000000){base:Nat}:FV Tp 203 [.p (aH l)] base (pB (!decide l.Nodup)) []:=by
 rcases aSa l hl hb l.length 0 (by omega) (by simp) with ⟨q1,q2⟩ | ⟨q1,i',m',q2⟩
 ·rw [decide_eq_true q1];exact bVg q2
 ·rw [decide_eq_false q1];exact bVh q2
theorem mT(dl:Int)(sk dc:Lqq)(h:uni 2 sk∧sk.length≤1000){base:Nat}:FV Tp 135 [.p (.agg [aA dl,.sl sk.length (sk.flatten.map aA),.sl dc.length (dc.flatten.map aA)])] base (.own base) [(base,.row 3 (aM sk 0).length ((aM sk 0).map aA))]:=by
 obtain ⟨hu,hl⟩:=h;have L:=aG.count (P:=Tp) (k:=0) (b:=aRy) (e := .exit 0) (R:=qO sk sk.length (aM sk 0).length ((aM sk 0).map aA)) sk.length (fun i=>qO sk i (aM (sk.take i) 0).length ((aM (sk.take i) 0).map aA))
  (fun i Ce=>by
   obtain ⟨a,b,hx⟩:=at2 hu Ce;have et:sk.take (i+1)=sk.take i++[[a,b]]:=by rw [List.take_add_one,hx];rfl
   exact aWm (o:=aM (sk.take i) 0) (o':=aM (sk.take (i+1)) 0) (by omega) hx hu ⟨rfl,by simp [aM];omega⟩ (aN (by omega)) rfl (by simp [aM];omega) (by rw [et];simp [aM]))
  (by rw [List.take_length];exact aWn (by omega)) (by simp)
 exact bPq L
theorem aGx(dl:Int)(sk dc:Lqq)(h:uni 6 dc∧dc.length≤1000){base:Nat}:FV Tp 204 [.p (.agg [aA dl,.sl sk.length (sk.flatten.map aA),.sl dc.length (dc.flatten.map aA)])] base (.own base) [(base,.row 3 (aM dc 0).length ((aM dc 0).map aA))]:=by
 obtain ⟨hu,hl⟩:=h;have L:=aG.count (P:=Tp) (k:=0) (b:=aRz) (e := .exit 0) (R:=qP dc dc.length (aM dc 0).length ((aM dc 0).map aA)) dc.length (fun i=>qP dc i (aM (dc.take i) 0).length ((aM (dc.take i) 0).map aA))
  (fun i Ce=>by
   obtain ⟨a,b,c,d,e,g,hx⟩:=Qx hu Ce;have et:dc.take (i+1)=dc.take i++[[a,b,c,d,e,g]]:=by rw [List.take_add_one,hx];rfl
   exact aWo (o:=aM (dc.take i) 0) (o':=aM (dc.take (i+1)) 0) (by omega) hx hu ⟨rfl,by simp [aM];omega⟩ (aN (by omega)) rfl (by simp [aM];omega) (by rw [et];simp [aM]))
  (by rw [List.take_length];exact aWp (by omega)) (by simp)
 exact bPr L
end
section
variable {r0:Bool}{v dl x0 x1 x2 x3 x4 x5 Ag Aa Ab Ac Ad Ae Af:Int}{l dc sk:Lqq}{i i' Av base:Nat}
variable {dl:Int}{sk dc:Lqq}

noncomputable abbrev jK:Code:=sub (cd Tryz.f277) [1,0,1,0,0]
noncomputable abbrev aEt:Code:=sub (cd Tryz.f20) [1,0,1,0,0]
noncomputable abbrev aEu:Code:=sub (cd Tryz.f276) [1,0,1,0,0]
def gO(l:List Int)(v:Int)(i:Nat):St:=⟨fr 19 [(0,(.p (aH l))),(1,(pI v)),(7,(pI (l.length:Int))),(8,(pI (i:Int)))],[]⟩
theorem bDw{l:List Int}(hl0:aG Tp 0 aEt (gO l v 0) (.exit 0) (gO l v Av)):FV Tp 20 [(.p (aH l)),(pI v)] base (pI (-1)) []:=FV.fi func20 [hl0.k 6 (gZ cj)] (gc hl0.code gn)
theorem bDx{l:List Int}(hl0:aG Tp 0 aEt (gO l v 0) .ret (cQ (gO l v Av) [(4,(pI (Av:Int)))])):FV Tp 20 [(.p (aH l)),(pI v)] base (pI (Av:Int)) []:=FV.fi func20 [hl0.k 6 (gZ cj)] (gc hl0.code gn)
section
variable{l:List Int}(h0:(i:Int)<(l.length:Int))(h1:l[i]? = some Ag)
include h0 h1
theorem aEv(h2:v=Ag):aC Tp 0 aEt (gO l v i) .ret (cQ (gO l v i) [(4,(pI (i:Int)))]):=aC.fi (gZ c8) [bT,.x (aA Ag),bT] (gc (eJ h2) (gc (atm aA h1) (gc (ixn aA h1) (g0 h0))))
theorem aEw(h2:v≠Ag)(h3:co i)(Ak:i'=(i+1)):aC Tp 0 aEt (gO l v i) .normal (gO l v i'):=by
 subst Ak;exact aC.fi (gZ cj) [bT,.x (aA Ag),bF] (gc h3 (gc (bI h2) (gc (atm aA h1) (gc (ixn aA h1) (g0 h0)))))
end
theorem aEx{l:List Int}(h0:(l.length:Int)≤(i:Int)):aC Tp 0 aEt (gO l v i) (.exit 0) (gO l v i):=aC.fi (gZ cj) [bF] (gc (aS h0) gn)
theorem aBs(l:List Int)(v:Int)(hl:l.length≤1000){base:Nat}:FV Tp 20 [.p (aH l),.p (aA v)] base (pI (bO (fun x=>decide (v=x)) l)) []:=by
 rcases aG.find (P:=Tp) (k:=0) (b:=aEt) (fun i=>gO l v i) (fun i _=>cQ (gO l v i) [(4,.p (aA (i:Int)))]) (gO l v l.length) .ret (.exit 0) (by simp) (by simp) (fun x=>decide (v=x)) l
  (fun i x hx hp=>aEw (by have:=bA hx;omega) hx (by simpa using hp) (aN (by have:=bA hx;omega)) rfl)
  (fun i x hx hp=>aEv (by have:=bA hx;omega) hx (by simpa using hp))
  (aEx (l:=l) (i:=l.length) (by omega)) with ⟨i,x,h1,h2,h3,h4⟩ | ⟨h1,h2,h3⟩
 ·rw [jR h2];exact bDx h4
 ·rw [jS h1];exact bDw h3
theorem bPw{l:List Int}(h0:l.length≤1000)(An:r0=(decide ((bO (fun x=>decide (v=x)) l) ≥ 0))):FV Tp 22 [(.p (aH l)),(pI v)] base (pB r0) []:=by
 subst An;have k1:=fk 0 (aBs l v h0) rfl;exact FV.fi func22 [k1.o] (gc k1 gn)
theorem vG(l:List Int)(v:Int):decide (bO (fun x=>decide (v=x)) l ≥ 0)=l.contains v:=by
 rw [nS]
 induction l with
 | nil=>rfl
 | cons a l ih=>rw [List.any_cons,ih,List.contains_cons];rfl
theorem oS(l:List Int)(v:Int)(hl:l.length≤1000){base:Nat}:FV Tp 22 [.p (aH l),.p (aA v)] base (pB (l.contains v)) []:=bPw hl (vG l v).symm
theorem bPx(h0:(decide (x1≤4))=true)(An:r0=(x5 == 0)):FV Tp 206 [(.p (.agg [(aA x0),(aA x1),(aA x2),(aA x3),(aA x4),(aA x5)]))] base (pB r0) []:=by
 subst An;have k1:=fk 1 (dU x1) rfl;exact FV.fi func206 [k1.o,bT] (gc h0 (gc k1 gn))
theorem bPy(h0:(decide (x1≤4))=false)(h1:inR (x0-1))(An:r0=(within x5 1 (x0-1))):FV Tp 206 [(.p (.agg [(aA x0),(aA x1),(aA x2),(aA x3),(aA x4),(aA x5)]))] base (pB r0) []:=by
 subst An;have k1:=fk 1 (dU x1) rfl;have k2:=fk 1 (bL x5 1 (x0-1)) rfl;exact FV.fi func206 [k1.o,bF,k2.o] (gc k2 (gc h1 (gc h0 (gc k1 gn))))
def orB(x:List Int):Bool:=if x.getD 1 0≤4 then x.getD 5 0 == 0 else within (x.getD 5 0) 1 (x.getD 0 0-1)
theorem bPz(a b c d e f:Int)(h:inR (a-1)){base:Nat}:FV Tp 206 [.p (dcE a b c d e f)] base (pB (orB [a,b,c,d,e,f])) []:=by
 by_cases hb:b≤4
 ·exact bPx (by simpa using hb) (show (if b≤4 then f == 0 else within f 1 (a-1))=_ by rw [if_pos hb])
 ·exact bPy (by simpa using hb) h (show (if b≤4 then f == 0 else within f 1 (a-1))=_ by rw [if_neg hb])
theorem bQa(h0:(decide (x1≤4))=true)(h1:uni 2 sk∧sk.length≤1000)(h2:(aM sk 0).length≤1000)(An:r0=((aM sk 0).contains x3)):FV Tp 205 [(.p (.agg [(aA x0),(aA x1),(aA x2),(aA x3),(aA x4),(aA x5)])),(.rp [(aA dl),(fS sk),(fS dc)] 0)] base (pB r0) []:=by
 subst An;have k1:=fk 1 (dU x1) rfl;have k2:=fk 1 (mT dl sk dc h1) rfl;exact FV.fi func205 [k1.o,bT,.x (.agg [(aA dl),(fS sk),(fS dc)]),k2.o,.c (pB ((aM sk 0).contains x3)) []] (gt (FC Tp 22 [(.own 1),(pI x3)] [(1,(.row 3 ((aM sk 0).length) ((aM sk 0).map aA)))] 9 (pB ((aM sk 0).contains x3)) []) (fv (oS (aM sk 0) x3 h2)) (gc k2 (gr (.agg [(aA dl),(fS sk),(fS dc)]) (gt (0+3≤[(aA dl),(fS sk),(fS dc)].length) (by first | decide | simp) (gc h0 (gc k1 gn))))))
theorem bQb(h0:(decide (x1≤4))=false)(An:r0=(x3 == 0)):FV Tp 205 [(.p (.agg [(aA x0),(aA x1),(aA x2),(aA x3),(aA x4),(aA x5)])),(.rp [(aA dl),(fS sk),(fS dc)] 0)] base (pB r0) []:=by
 subst An;have k1:=fk 1 (dU x1) rfl;exact FV.fi func205 [k1.o,bF] (gc h0 (gc k1 gn))
def inB(sk:Lqq)(x:List Int):Bool:=if x.getD 1 0≤4 then (aM sk 0).contains (x.getD 3 0) else x.getD 3 0 == 0
abbrev dQ(dl:Int)(sk dc:Lqq):List PV:=[aA dl,.sl sk.length (sk.flatten.map aA),.sl dc.length (dc.flatten.map aA)]
theorem bQc(a b c d e f dl:Int)(sk dc:Lqq)(h:uni 2 sk∧sk.length≤1000){base:Nat}:FV Tp 205 [.p (dcE a b c d e f),.rp (dQ dl sk dc) 0] base (pB (inB sk [a,b,c,d,e,f])) []:=by
 by_cases hb:b≤4
 ·exact bQa (by simpa using hb) h (by simpa [aM] using h.2) (show (if b≤4 then (aM sk 0).contains d else d == 0)=_ by rw [if_pos hb])
 ·exact bQb (by simpa using hb) (show (if b≤4 then (aM sk 0).contains d else d == 0)=_ by rw [if_neg hb])
theorem bIn(An:r0=(!(skB [x0,x1]))):FMM Tp 236 [(.p (.agg [(aA x0),(aA x1)])),(.ptr 0 0)] [some (.box 269 [(.fn 200 [] [])])] (pB r0) [some (.box 269 [(.fn 200 [] [])])]:=by
 subst An;have k1:=fk 2 (bPe x0 x1) rfl;exact FMM.fi 1 gE func236 [k1.o] (gc k1 gn)
theorem aSh(x0:Int)(x1:Int):FMM Tp 236 [(.p (.agg [(aA x0),(aA x1)])),.ptr 0 0] [some (.box 269 [(.fn 200 [] [])])] (pB (!(skB [x0,x1]))) [some (.box 269 [(.fn 200 [] [])])]:=bIn rfl
def fW(l:Lqq)(i:Nat):St:=⟨fr 19 [(0,(.p (fS l))),(1,(.fn 236 [] [(.ptr 0 0)])),(7,(pI (l.length:Int))),(8,(pI (i:Int)))],[some (.box 269 [(.fn 200 [] [])])]⟩
theorem bIo(hl0:aG Tp 1 aEu (fW l 0) (.exit 0) (fW l Av)):FMM Tp 276 [(.p (fS l)),(.fn 236 [] [(.ptr 0 0)])] [some (.box 269 [(.fn 200 [] [])])] (pI (-1)) [some (.box 269 [(.fn 200 [] [])])]:=FMM.fi 1 gE func276 [hl0.k 6 (gZ cj)] (gc hl0.code gn)
theorem bIp(hl0:aG Tp 1 aEu (fW l 0) .ret (cQ (fW l Av) [(4,(pI (Av:Int)))])):FMM Tp 276 [(.p (fS l)),(.fn 236 [] [(.ptr 0 0)])] [some (.box 269 [(.fn 200 [] [])])] (pI (Av:Int)) [some (.box 269 [(.fn 200 [] [])])]:=FMM.fi 1 gE func276 [hl0.k 6 (gZ cj)] (gc hl0.code gn)
section
variable(h0:(i:Int)<(l.length:Int))(h1:l[i]? = some [Aa,Ab])(h2:uni 2 l)
include h0 h1 h2
theorem aOk(h3:(skB [Aa,Ab])=false):aC Tp 1 aEu (fW l i) .ret (cQ (fW l i) [(4,(pI (i:Int)))]):=have k1:=mq [0] 1 (aSh Aa Ab);aC.fi (gZ c8) [bT,.x (.agg [(aA Aa),(aA Ab)]),k1.o,bT] (gc (cE h3) (gc k1 (gfl h2 h1 (g0 h0))))
theorem aOl(h3:(skB [Aa,Ab])=true)(h4:co i)(Ak:i'=(i+1)):aC Tp 1 aEu (fW l i) .normal (fW l i'):=by
 subst Ak;have k1:=mq [0] 1 (aSh Aa Ab);exact aC.fi (gZ cj) [bT,.x (.agg [(aA Aa),(aA Ab)]),k1.o,bF] (gc h4 (gc (aW h3) (gc k1 (gfl h2 h1 (g0 h0)))))
end
theorem aOm(h0:(l.length:Int)≤(i:Int)):aC Tp 1 aEu (fW l i) (.exit 0) (fW l i):=aC.fi (gZ cj) [bF] (gc (aS h0) gn)
theorem bIq(l:Lqq)(hl:l.length≤1000)(hu:uni 2 l):FMM Tp 276 [.p (fS l),(.fn 236 [] [(.ptr 0 0)])] [some (.box 269 [(.fn 200 [] [])])] (pI (bO (fun x => !(skB x)) l)) [some (.box 269 [(.fn 200 [] [])])]:=by
 rcases aG.find (P:=Tp) (k:=1) (b:=aEu) (fun i=>fW l i) (fun i _=>cQ (fW l i) [(4,.p (aA (i:Int)))]) (fW l l.length) .ret (.exit 0) (by simp) (by simp) (fun x => !(skB x)) l
  (fun i x hx hp=>by obtain ⟨a,b,rfl⟩:=len2 (hu _ (Bi hx));exact aOl (by have:=bA hx;omega) hx hu (by simpa using hp) (aN (by have:=bA hx;omega)) rfl)
  (fun i x hx hp=>by obtain ⟨a,b,rfl⟩:=len2 (hu _ (Bi hx));exact aOk (by have:=bA hx;omega) hx hu (by simpa using hp))
  (aOm (l:=l) (i:=l.length) (by omega)) with ⟨i,x,h1,h2,h3,h4⟩ | ⟨h1,h2,h3⟩
 ·rw [jR h2];exact bIp h4
 ·rw [jS h1];exact bIo h3
theorem bIr(h0:l.length≤1000)(h1:uni 2 l)(An:r0=(decide ((bO (fun x => !(skB x)) l) ≥ 0))):FMM Tp 235 [(.p (fS l)),(.fn 236 [] [(.ptr 0 0)])] [some (.box 269 [(.fn 200 [] [])])] (pB r0) [some (.box 269 [(.fn 200 [] [])])]:=by
 subst An;have k1:=mq [0] 1 (bIq l h0 h1);exact FMM.fi 1 gE func235 [k1.o] (gc k1 gn)
theorem bIs(l:Lqq)(hl:l.length≤1000)(hu:uni 2 l):FMM Tp 235 [.p (fS l),(.fn 236 [] [(.ptr 0 0)])] [some (.box 269 [(.fn 200 [] [])])] (pB (l.any (fun x => !(skB x)))) [some (.box 269 [(.fn 200 [] [])])]:=bIr hl hu (nS _ _).symm
theorem bQd(h0:l.length≤1000)(h1:uni 2 l)(An:r0=(!(l.any (fun x => !(skB x))))):FV Tp 199 [(.p (fS l)),(.fn 200 [] [])] base (pB r0) []:=by
 subst An;have k1:=mq [0] 1 (bIs l h0 h1);exact FV.fi func199 [k1.o] (gc k1 gn)
theorem tV(l:Lqq)(hl:l.length≤1000)(hu:uni 2 l){base:Nat}:FV Tp 199 [.p (fS l),(.fn 200 [] [])] base (pB (l.all (skB))) []:=bQd hl hu (by rw [List.all_eq_not_any_not])
theorem bIt(An:r0=(!(dcB [x0,x1,x2,x3,x4,x5]))):FMM Tp 238 [(.p (.agg [(aA x0),(aA x1),(aA x2),(aA x3),(aA x4),(aA x5)])),(.ptr 0 0)] [some (.box 115 [(.fn 202 [] [])])] (pB r0) [some (.box 115 [(.fn 202 [] [])])]:=by
 subst An;have k1:=fk 2 (bPp x0 x1 x2 x3 x4 x5) rfl;exact FMM.fi 1 gE func238 [k1.o] (gc k1 gn)
theorem aSi(x0:Int)(x1:Int)(x2:Int)(x3:Int)(x4:Int)(x5:Int):FMM Tp 238 [(.p (.agg [(aA x0),(aA x1),(aA x2),(aA x3),(aA x4),(aA x5)])),.ptr 0 0] [some (.box 115 [(.fn 202 [] [])])] (pB (!(dcB [x0,x1,x2,x3,x4,x5]))) [some (.box 115 [(.fn 202 [] [])])]:=bIt rfl
def fX(l:Lqq)(i:Nat):St:=⟨fr 19 [(0,(.p (fS l))),(1,(.fn 238 [] [(.ptr 0 0)])),(7,(pI (l.length:Int))),(8,(pI (i:Int)))],[some (.box 115 [(.fn 202 [] [])])]⟩
theorem bIu(hl0:aG Tp 1 jK (fX l 0) (.exit 0) (fX l Av)):FMM Tp 277 [(.p (fS l)),(.fn 238 [] [(.ptr 0 0)])] [some (.box 115 [(.fn 202 [] [])])] (pI (-1)) [some (.box 115 [(.fn 202 [] [])])]:=FMM.fi 1 gE func277 [hl0.k 6 (gZ cj)] (gc hl0.code gn)
theorem bIv(hl0:aG Tp 1 jK (fX l 0) .ret (cQ (fX l Av) [(4,(pI (Av:Int)))])):FMM Tp 277 [(.p (fS l)),(.fn 238 [] [(.ptr 0 0)])] [some (.box 115 [(.fn 202 [] [])])] (pI (Av:Int)) [some (.box 115 [(.fn 202 [] [])])]:=FMM.fi 1 gE func277 [hl0.k 6 (gZ cj)] (gc hl0.code gn)
section
variable(h0:(i:Int)<(l.length:Int))(h1:l[i]? = some [Aa,Ab,Ac,Ad,Ae,Af])(h2:uni 6 l)
include h0 h1 h2
theorem aOn(h3:(dcB [Aa,Ab,Ac,Ad,Ae,Af])=false):aC Tp 1 jK (fX l i) .ret (cQ (fX l i) [(4,(pI (i:Int)))]):=have k1:=mq [0] 1 (aSi Aa Ab Ac Ad Ae Af);aC.fi (gZ c8) [bT,.x (.agg [(aA Aa),(aA Ab),(aA Ac),(aA Ad),(aA Ae),(aA Af)]),k1.o,bT] (gc (cE h3) (gc k1 (gfl h2 h1 (g0 h0))))
theorem aOo(h3:(dcB [Aa,Ab,Ac,Ad,Ae,Af])=true)(h4:co i)(Ak:i'=(i+1)):aC Tp 1 jK (fX l i) .normal (fX l i'):=by
 subst Ak;have k1:=mq [0] 1 (aSi Aa Ab Ac Ad Ae Af);exact aC.fi (gZ cj) [bT,.x (.agg [(aA Aa),(aA Ab),(aA Ac),(aA Ad),(aA Ae),(aA Af)]),k1.o,bF] (gc h4 (gc (aW h3) (gc k1 (gfl h2 h1 (g0 h0)))))
end
theorem aOp(h0:(l.length:Int)≤(i:Int)):aC Tp 1 jK (fX l i) (.exit 0) (fX l i):=aC.fi (gZ cj) [bF] (gc (aS h0) gn)
theorem bIw(l:Lqq)(hl:l.length≤1000)(hu:uni 6 l):FMM Tp 277 [.p (fS l),(.fn 238 [] [(.ptr 0 0)])] [some (.box 115 [(.fn 202 [] [])])] (pI (bO (fun x => !(dcB x)) l)) [some (.box 115 [(.fn 202 [] [])])]:=by
 rcases aG.find (P:=Tp) (k:=1) (b:=jK) (fun i=>fX l i) (fun i _=>cQ (fX l i) [(4,.p (aA (i:Int)))]) (fX l l.length) .ret (.exit 0) (by simp) (by simp) (fun x => !(dcB x)) l
  (fun i x hx hp=>by obtain ⟨a,b,c,d,e,f,rfl⟩:=A8 (hu _ (Bi hx));exact aOo (by have:=bA hx;omega) hx hu (by simpa using hp) (aN (by have:=bA hx;omega)) rfl)
  (fun i x hx hp=>by obtain ⟨a,b,c,d,e,f,rfl⟩:=A8 (hu _ (Bi hx));exact aOn (by have:=bA hx;omega) hx hu (by simpa using hp))
  (aOp (l:=l) (i:=l.length) (by omega)) with ⟨i,x,h1,h2,h3,h4⟩ | ⟨h1,h2,h3⟩
 ·rw [jR h2];exact bIv h4
 ·rw [jS h1];exact bIu h3
theorem bIx(h0:l.length≤1000)(h1:uni 6 l)(An:r0=(decide ((bO (fun x => !(dcB x)) l) ≥ 0))):FMM Tp 237 [(.p (fS l)),(.fn 238 [] [(.ptr 0 0)])] [some (.box 115 [(.fn 202 [] [])])] (pB r0) [some (.box 115 [(.fn 202 [] [])])]:=by
 subst An;have k1:=mq [0] 1 (bIw l h0 h1);exact FMM.fi 1 gE func237 [k1.o] (gc k1 gn)
theorem bIy(l:Lqq)(hl:l.length≤1000)(hu:uni 6 l):FMM Tp 237 [.p (fS l),(.fn 238 [] [(.ptr 0 0)])] [some (.box 115 [(.fn 202 [] [])])] (pB (l.any (fun x => !(dcB x)))) [some (.box 115 [(.fn 202 [] [])])]:=bIx hl hu (nS _ _).symm
theorem bQe(h0:l.length≤1000)(h1:uni 6 l)(An:r0=(!(l.any (fun x => !(dcB x))))):FV Tp 201 [(.p (fS l)),(.fn 202 [] [])] base (pB r0) []:=by
 subst An;have k1:=mq [0] 1 (bIy l h0 h1);exact FV.fi func201 [k1.o] (gc k1 gn)
theorem wP(l:Lqq)(hl:l.length≤1000)(hu:uni 6 l){base:Nat}:FV Tp 201 [.p (fS l),(.fn 202 [] [])] base (pB (l.all (dcB))) []:=bQe hl hu (by rw [List.all_eq_not_any_not])
theorem bIz(h0:inR (x0-1))(An:r0=(!(orB [x0,x1,x2,x3,x4,x5]))):FMM Tp 238 [(.p (.agg [(aA x0),(aA x1),(aA x2),(aA x3),(aA x4),(aA x5)])),(.ptr 0 0)] [some (.box 115 [(.fn 206 [] [])])] (pB r0) [some (.box 115 [(.fn 206 [] [])])]:=by
 subst An;have k1:=fk 2 (bPz x0 x1 x2 x3 x4 x5 h0) rfl;exact FMM.fi 1 gE func238 [k1.o] (gc k1 gn)
theorem aSj(x0:Int)(x1:Int)(x2:Int)(x3:Int)(x4:Int)(x5:Int)(he:inR ([x0,x1,x2,x3,x4,x5].getD 0 0-1)):FMM Tp 238 [(.p (.agg [(aA x0),(aA x1),(aA x2),(aA x3),(aA x4),(aA x5)])),.ptr 0 0] [some (.box 115 [(.fn 206 [] [])])] (pB (!(orB [x0,x1,x2,x3,x4,x5]))) [some (.box 115 [(.fn 206 [] [])])]:=bIz he rfl
def fY(l:Lqq)(i:Nat):St:=⟨fr 19 [(0,(.p (fS l))),(1,(.fn 238 [] [(.ptr 0 0)])),(7,(pI (l.length:Int))),(8,(pI (i:Int)))],[some (.box 115 [(.fn 206 [] [])])]⟩
theorem bJa(hl0:aG Tp 1 jK (fY l 0) (.exit 0) (fY l Av)):FMM Tp 277 [(.p (fS l)),(.fn 238 [] [(.ptr 0 0)])] [some (.box 115 [(.fn 206 [] [])])] (pI (-1)) [some (.box 115 [(.fn 206 [] [])])]:=FMM.fi 1 gE func277 [hl0.k 6 (gZ cj)] (gc hl0.code gn)
theorem bJb(hl0:aG Tp 1 jK (fY l 0) .ret (cQ (fY l Av) [(4,(pI (Av:Int)))])):FMM Tp 277 [(.p (fS l)),(.fn 238 [] [(.ptr 0 0)])] [some (.box 115 [(.fn 206 [] [])])] (pI (Av:Int)) [some (.box 115 [(.fn 206 [] [])])]:=FMM.fi 1 gE func277 [hl0.k 6 (gZ cj)] (gc hl0.code gn)
section
variable(h0:(i:Int)<(l.length:Int))(h1:l[i]? = some [Aa,Ab,Ac,Ad,Ae,Af])(h2:uni 6 l)(h3:inR ([Aa,Ab,Ac,Ad,Ae,Af].getD 0 0-1))
include h0 h1 h2 h3
theorem aOq(h4:(orB [Aa,Ab,Ac,Ad,Ae,Af])=false):aC Tp 1 jK (fY l i) .ret (cQ (fY l i) [(4,(pI (i:Int)))]):=have k1:=mq [0] 1 (aSj Aa Ab Ac Ad Ae Af h3);aC.fi (gZ c8) [bT,.x (.agg [(aA Aa),(aA Ab),(aA Ac),(aA Ad),(aA Ae),(aA Af)]),k1.o,bT] (gc (cE h4) (gc k1 (gfl h2 h1 (g0 h0))))
theorem aOr(h4:(orB [Aa,Ab,Ac,Ad,Ae,Af])=true)(h5:co i)(Ak:i'=(i+1)):aC Tp 1 jK (fY l i) .normal (fY l i'):=by
 subst Ak;have k1:=mq [0] 1 (aSj Aa Ab Ac Ad Ae Af h3);exact aC.fi (gZ cj) [bT,.x (.agg [(aA Aa),(aA Ab),(aA Ac),(aA Ad),(aA Ae),(aA Af)]),k1.o,bF] (gc h5 (gc (aW h4) (gc k1 (gfl h2 h1 (g0 h0)))))
end
theorem aOs(h0:(l.length:Int)≤(i:Int)):aC Tp 1 jK (fY l i) (.exit 0) (fY l i):=aC.fi (gZ cj) [bF] (gc (aS h0) gn)
theorem bJc(l:Lqq)(hl:l.length≤1000)(hu:uni 6 l)(he:∀ x∈l,inR (x.getD 0 0-1)):FMM Tp 277 [.p (fS l),(.fn 238 [] [(.ptr 0 0)])] [some (.box 115 [(.fn 206 [] [])])] (pI (bO (fun x => !(orB x)) l)) [some (.box 115 [(.fn 206 [] [])])]:=by
 rcases aG.find (P:=Tp) (k:=1) (b:=jK) (fun i=>fY l i) (fun i _=>cQ (fY l i) [(4,.p (aA (i:Int)))]) (fY l l.length) .ret (.exit 0) (by simp) (by simp) (fun x => !(orB x)) l
  (fun i x hx hp=>by obtain ⟨a,b,c,d,e,f,rfl⟩:=A8 (hu _ (Bi hx));exact aOr (by have:=bA hx;omega) hx hu (he _ (Bi hx)) (by simpa using hp) (aN (by have:=bA hx;omega)) rfl)
  (fun i x hx hp=>by obtain ⟨a,b,c,d,e,f,rfl⟩:=A8 (hu _ (Bi hx));exact aOq (by have:=bA hx;omega) hx hu (he _ (Bi hx)) (by simpa using hp))
  (aOs (l:=l) (i:=l.length) (by omega)) with ⟨i,x,h1,h2,h3,h4⟩ | ⟨h1,h2,h3⟩
 ·rw [jR h2];exact bJb h4
 ·rw [jS h1];exact bJa h3
theorem bJd(h0:l.length≤1000)(h1:uni 6 l)(h2:∀ x∈l,inR (x.getD 0 0-1))(An:r0=(decide ((bO (fun x => !(orB x)) l) ≥ 0))):FMM Tp 237 [(.p (fS l)),(.fn 238 [] [(.ptr 0 0)])] [some (.box 115 [(.fn 206 [] [])])] (pB r0) [some (.box 115 [(.fn 206 [] [])])]:=by
 subst An;have k1:=mq [0] 1 (bJc l h0 h1 h2);exact FMM.fi 1 gE func237 [k1.o] (gc k1 gn)
theorem bJe(l:Lqq)(hl:l.length≤1000)(hu:uni 6 l)(he:∀ x∈l,inR (x.getD 0 0-1)):FMM Tp 237 [.p (fS l),(.fn 238 [] [(.ptr 0 0)])] [some (.box 115 [(.fn 206 [] [])])] (pB (l.any (fun x => !(orB x)))) [some (.box 115 [(.fn 206 [] [])])]:=bJd hl hu he (nS _ _).symm
theorem bQf(h0:l.length≤1000)(h1:uni 6 l)(h2:∀ x∈l,inR (x.getD 0 0-1))(An:r0=(!(l.any (fun x => !(orB x))))):FV Tp 201 [(.p (fS l)),(.fn 206 [] [])] base (pB r0) []:=by
 subst An;have k1:=mq [0] 1 (bJe l h0 h1 h2);exact FV.fi func201 [k1.o] (gc k1 gn)
theorem bDy(l:Lqq)(hl:l.length≤1000)(hu:uni 6 l)(he:∀ x∈l,inR (x.getD 0 0-1)){base:Nat}:FV Tp 201 [.p (fS l),(.fn 206 [] [])] base (pB (l.all (orB))) []:=bQf hl hu he (by rw [List.all_eq_not_any_not])
theorem bJf(h0:uni 2 sk∧sk.length≤1000)(An:r0=(!(inB sk [x0,x1,x2,x3,x4,x5]))):FMM Tp 238 [(.p (.agg [(aA x0),(aA x1),(aA x2),(aA x3),(aA x4),(aA x5)])),(.ptr 0 0)] [some (.box 115 [(.fn 205 [] [(.rp [(aA dl),(fS sk),(fS dc)] 0)])])] (pB r0) [some (.box 115 [(.fn 205 [] [(.rp [(aA dl),(fS sk),(fS dc)] 0)])])]:=by
 subst An;have k1:=fk 2 (bQc x0 x1 x2 x3 x4 x5 dl sk dc h0) rfl;exact FMM.fi 1 gE func238 [k1.o] (gc k1 gn)
theorem aSk(x0:Int)(x1:Int)(x2:Int)(x3:Int)(x4:Int)(x5:Int)(dl:Int)(sk:Lqq)(dc:Lqq)(he:uni 2 sk∧sk.length≤1000):FMM Tp 238 [(.p (.agg [(aA x0),(aA x1),(aA x2),(aA x3),(aA x4),(aA x5)])),.ptr 0 0] [some (.box 115 [(.fn 205 [] [(.rp [(aA dl),(fS sk),(fS dc)] 0)])])] (pB (!(inB sk [x0,x1,x2,x3,x4,x5]))) [some (.box 115 [(.fn 205 [] [(.rp [(aA dl),(fS sk),(fS dc)] 0)])])]:=bJf he rfl
def fZ(l:Lqq)(dl:Int)(sk:Lqq)(dc:Lqq)(i:Nat):St:=⟨fr 19 [(0,(.p (fS l))),(1,(.fn 238 [] [(.ptr 0 0)])),(7,(pI (l.length:Int))),(8,(pI (i:Int)))],[some (.box 115 [(.fn 205 [] [(.rp [(aA dl),(fS sk),(fS dc)] 0)])])]⟩
theorem bJg(hl0:aG Tp 1 jK (fZ l dl sk dc 0) (.exit 0) (fZ l dl sk dc Av)):FMM Tp 277 [(.p (fS l)),(.fn 238 [] [(.ptr 0 0)])] [some (.box 115 [(.fn 205 [] [(.rp [(aA dl),(fS sk),(fS dc)] 0)])])] (pI (-1)) [some (.box 115 [(.fn 205 [] [(.rp [(aA dl),(fS sk),(fS dc)] 0)])])]:=FMM.fi 1 gE func277 [hl0.k 6 (gZ cj)] (gc hl0.code gn)
theorem bJh(hl0:aG Tp 1 jK (fZ l dl sk dc 0) .ret (cQ (fZ l dl sk dc Av) [(4,(pI (Av:Int)))])):FMM Tp 277 [(.p (fS l)),(.fn 238 [] [(.ptr 0 0)])] [some (.box 115 [(.fn 205 [] [(.rp [(aA dl),(fS sk),(fS dc)] 0)])])] (pI (Av:Int)) [some (.box 115 [(.fn 205 [] [(.rp [(aA dl),(fS sk),(fS dc)] 0)])])]:=FMM.fi 1 gE func277 [hl0.k 6 (gZ cj)] (gc hl0.code gn)
section
variable(h0:(i:Int)<(l.length:Int))(h1:l[i]? = some [Aa,Ab,Ac,Ad,Ae,Af])(h2:uni 6 l)(h3:uni 2 sk∧sk.length≤1000)
include h0 h1 h2 h3
theorem aOt(h4:(inB sk [Aa,Ab,Ac,Ad,Ae,Af])=false):aC Tp 1 jK (fZ l dl sk dc i) .ret (cQ (fZ l dl sk dc i) [(4,(pI (i:Int)))]):=have k1:=mq [0] 1 (aSk Aa Ab Ac Ad Ae Af dl sk dc h3);aC.fi (gZ c8) [bT,.x (.agg [(aA Aa),(aA Ab),(aA Ac),(aA Ad),(aA Ae),(aA Af)]),k1.o,bT] (gc (cE h4) (gc k1 (gfl h2 h1 (g0 h0))))
theorem aOu(h4:(inB sk [Aa,Ab,Ac,Ad,Ae,Af])=true)(h5:co i)(Ak:i'=(i+1)):aC Tp 1 jK (fZ l dl sk dc i) .normal (fZ l dl sk dc i'):=by
 subst Ak;have k1:=mq [0] 1 (aSk Aa Ab Ac Ad Ae Af dl sk dc h3);exact aC.fi (gZ cj) [bT,.x (.agg [(aA Aa),(aA Ab),(aA Ac),(aA Ad),(aA Ae),(aA Af)]),k1.o,bF] (gc h5 (gc (aW h4) (gc k1 (gfl h2 h1 (g0 h0)))))
end
theorem aOv(h0:(l.length:Int)≤(i:Int)):aC Tp 1 jK (fZ l dl sk dc i) (.exit 0) (fZ l dl sk dc i):=aC.fi (gZ cj) [bF] (gc (aS h0) gn)
theorem bJi(l:Lqq)(dl:Int)(sk:Lqq)(dc:Lqq)(hl:l.length≤1000)(hu:uni 6 l)(he:∀ x∈l,uni 2 sk∧sk.length≤1000):FMM Tp 277 [.p (fS l),(.fn 238 [] [(.ptr 0 0)])] [some (.box 115 [(.fn 205 [] [(.rp [(aA dl),(fS sk),(fS dc)] 0)])])] (pI (bO (fun x => !(inB sk x)) l)) [some (.box 115 [(.fn 205 [] [(.rp [(aA dl),(fS sk),(fS dc)] 0)])])]:=by
 rcases aG.find (P:=Tp) (k:=1) (b:=jK) (fun i=>fZ l dl sk dc i) (fun i _=>cQ (fZ l dl sk dc i) [(4,.p (aA (i:Int)))]) (fZ l dl sk dc l.length) .ret (.exit 0) (by simp) (by simp) (fun x => !(inB sk x)) l
  (fun i x hx hp=>by obtain ⟨a,b,c,d,e,f,rfl⟩:=A8 (hu _ (Bi hx));exact aOu (by have:=bA hx;omega) hx hu (he _ (Bi hx)) (by simpa using hp) (aN (by have:=bA hx;omega)) rfl)
  (fun i x hx hp=>by obtain ⟨a,b,c,d,e,f,rfl⟩:=A8 (hu _ (Bi hx));exact aOt (by have:=bA hx;omega) hx hu (he _ (Bi hx)) (by simpa using hp))
  (aOv (l:=l) (i:=l.length) (by omega)) with ⟨i,x,h1,h2,h3,h4⟩ | ⟨h1,h2,h3⟩
 ·rw [jR h2];exact bJh h4
 ·rw [jS h1];exact bJg h3
theorem bJj(h0:l.length≤1000)(h1:uni 6 l)(h2:∀ x∈l,uni 2 sk∧sk.length≤1000)(An:r0=(decide ((bO (fun x => !(inB sk x)) l) ≥ 0))):FMM Tp 237 [(.p (fS l)),(.fn 238 [] [(.ptr 0 0)])] [some (.box 115 [(.fn 205 [] [(.rp [(aA dl),(fS sk),(fS dc)] 0)])])] (pB r0) [some (.box 115 [(.fn 205 [] [(.rp [(aA dl),(fS sk),(fS dc)] 0)])])]:=by
 subst An;have k1:=mq [0] 1 (bJi l dl sk dc h0 h1 h2);exact FMM.fi 1 gE func237 [k1.o] (gc k1 gn)
theorem bJk(l:Lqq)(dl:Int)(sk:Lqq)(dc:Lqq)(hl:l.length≤1000)(hu:uni 6 l)(he:∀ x∈l,uni 2 sk∧sk.length≤1000):FMM Tp 237 [.p (fS l),(.fn 238 [] [(.ptr 0 0)])] [some (.box 115 [(.fn 205 [] [(.rp [(aA dl),(fS sk),(fS dc)] 0)])])] (pB (l.any (fun x => !(inB sk x)))) [some (.box 115 [(.fn 205 [] [(.rp [(aA dl),(fS sk),(fS dc)] 0)])])]:=bJj hl hu he (nS _ _).symm
theorem bQg(h0:l.length≤1000)(h1:uni 6 l)(h2:∀ x∈l,uni 2 sk∧sk.length≤1000)(An:r0=(!(l.any (fun x => !(inB sk x))))):FV Tp 201 [(.p (fS l)),(.fn 205 [] [(.rp [(aA dl),(fS sk),(fS dc)] 0)])] base (pB r0) []:=by
 subst An;have k1:=mq [0] 1 (bJk l dl sk dc h0 h1 h2);exact FV.fi func201 [k1.o] (gc k1 gn)
theorem aOw(l:Lqq)(dl:Int)(sk:Lqq)(dc:Lqq)(hl:l.length≤1000)(hu:uni 6 l)(he:∀ x∈l,uni 2 sk∧sk.length≤1000){base:Nat}:FV Tp 201 [.p (fS l),(.fn 205 [] [(.rp [(aA dl),(fS sk),(fS dc)] 0)])] base (pB (l.all (inB sk))) []:=bQg hl hu he (by rw [List.all_eq_not_any_not])
theorem bQh(h0:(within (sk.length:Int) 1 30)=false):FV Tp 152 [(.p (.agg [(aA dl),(fS sk),(fS dc)]))] base (pI 2) []:=have k1:=fk 1 (bL (sk.length:Int) 1 30) rfl;FV.fi func152 ([k1.o]++rT 5) (Dp (cE h0) (gc k1 gn))
section
variable(h0:(within (sk.length:Int) 1 30)=true)
include h0
theorem bQi(h1:(40:Int)<(dc.length:Int)):FV Tp 152 [(.p (.agg [(aA dl),(fS sk),(fS dc)]))] base (pI 2) []:=have k1:=fk 1 (bL (sk.length:Int) 1 30) rfl;FV.fi func152 ([k1.o]++rF 5++[bT]) (gc (bU h1) (Dp (aW h0) (gc k1 gn)))
theorem bQj(h1:(dc.length:Int)≤40)(h2:(within dl 0 10000)=false):FV Tp 152 [(.p (.agg [(aA dl),(fS sk),(fS dc)]))] base (pI 3) []:=have k1:=fk 1 (bL (sk.length:Int) 1 30) rfl;have k2:=fk 1 (bL dl 0 10000) rfl;FV.fi func152 ([k1.o]++rF 6++[k2.o]++rT 5) (Dp (cE h2) (gc k2 (gc (aS h1) (Dp (aW h0) (gc k1 gn)))))
end
section
variable(h0:(within (sk.length:Int) 1 30)=true)(h1:(dc.length:Int)≤40)(h2:(within dl 0 10000)=true)(h3:sk.length≤1000)(h4:uni 2 sk)
include h0 h1 h2 h3 h4
theorem bQk(h5:(sk.all (skB))=false):FV Tp 152 [(.p (.agg [(aA dl),(fS sk),(fS dc)]))] base (pI 3) []:=have k1:=fk 1 (bL (sk.length:Int) 1 30) rfl;have k2:=fk 1 (bL dl 0 10000) rfl;have k3:=fk 1 (tV sk h3 h4) rfl;FV.fi func152 ([k1.o]++rF 6++[k2.o,bF,bF,bF,k3.o,bF,bF]++rT 5) (Dp (cE h5) (Bn (aW h2) (gc k3 (Aw (aW h2) (gc k2 (gc (aS h1) (Dp (aW h0) (gc k1 gn))))))))
theorem bQl(h5:(sk.all (skB))=true)(h6:dc.length≤1000)(h7:uni 6 dc)(h8:(dc.all (dcB))=false):FV Tp 152 [(.p (.agg [(aA dl),(fS sk),(fS dc)]))] base (pI 3) []:=have k1:=fk 1 (bL (sk.length:Int) 1 30) rfl;have k2:=fk 1 (bL dl 0 10000) rfl;have k3:=fk 1 (tV sk h3 h4) rfl;have k4:=fk 1 (wP dc h6 h7) rfl;FV.fi func152 ([k1.o]++rF 6++[k2.o,bF,bF,bF,k3.o]++rF 5++[k4.o,bF,bF,bT]) (gc (cE h8) (Bn (aW h5) (gc k4 (Aw (aW h5) (Bn (aW h2) (gc k3 (Aw (aW h2) (gc k2 (gc (aS h1) (Dp (aW h0) (gc k1 gn)))))))))))
theorem bQm(h5:(sk.all (skB))=true)(h6:dc.length≤1000)(h7:uni 6 dc)(h8:(dc.all (dcB))=true)(h9:uni 2 sk∧sk.length≤1000)(A5:(aM sk 0).length≤1000)(B3:∀ x∈(aM sk 0),-1000000≤x∧x≤1000000)(Co:(!decide (aM sk 0).Nodup)=true):FV Tp 152 [(.p (.agg [(aA dl),(fS sk),(fS dc)]))] base (pI 5) []:=have k1:=fk 1 (bL (sk.length:Int) 1 30) rfl;have k2:=fk 1 (bL dl 0 10000) rfl;have k3:=fk 1 (tV sk h3 h4) rfl;have k4:=fk 1 (wP dc h6 h7) rfl;have k5:=fk 1 (mT dl sk dc h9) rfl;FV.fi func152 ([k1.o]++rF 6++[k2.o,bF,bF,bF,k3.o]++rF 5++[k4.o,bF,bF,bF,k5.o,.c (pB (!decide (aM sk 0).Nodup)) [],bT,bT,bT,bT]) (Ba Co (gt (FC Tp 203 [(.own 1)] [(1,(.row 3 ((aM sk 0).length) ((aM sk 0).map aA)))] 2 (pB (!decide (aM sk 0).Nodup)) []) (fv (vE (aM sk 0) A5 B3)) (gc k5 (gc (aW h8) (Bn (aW h5) (gc k4 (Aw (aW h5) (Bn (aW h2) (gc k3 (Aw (aW h2) (gc k2 (gc (aS h1) (Dp (aW h0) (gc k1 gn))))))))))))))
end
section
variable(h0:(within (sk.length:Int) 1 30)=true)(h1:(dc.length:Int)≤40)(h2:(within dl 0 10000)=true)(h3:sk.length≤1000)(h4:uni 2 sk)(h5:(sk.all (skB))=true)(h6:dc.length≤1000)(h7:uni 6 dc)(h8:(dc.all (dcB))=true)(h9:uni 2 sk∧sk.length≤1000)(A5:(aM sk 0).length≤1000)(B3:∀ x∈(aM sk 0),-1000000≤x∧x≤1000000)(Co:(!decide (aM sk 0).Nodup)=false)(Dn:uni 6 dc∧dc.length≤1000)(Ef:(aM dc 0).length≤1000)(Hg:∀ x∈(aM dc 0),-1000000≤x∧x≤1000000)
include h0 h1 h2 h3 h4 h5 h6 h7 h8 h9 A5 B3 Co Dn Ef Hg
theorem bQn(Gc:(!decide (aM dc 0).Nodup)=true):FV Tp 152 [(.p (.agg [(aA dl),(fS sk),(fS dc)]))] base (pI 5) []:=have k1:=fk 1 (bL (sk.length:Int) 1 30) rfl;have k2:=fk 1 (bL dl 0 10000) rfl;have k3:=fk 1 (tV sk h3 h4) rfl;have k4:=fk 1 (wP dc h6 h7) rfl;have k5:=fk 1 (mT dl sk dc h9) rfl;have k6:=fk 2 (aGx dl sk dc Dn) rfl;FV.fi func152 ([k1.o]++rF 6++[k2.o,bF,bF,bF,k3.o]++rF 5++[k4.o,bF,bF,bF,k5.o,.c (pB (!decide (aM sk 0).Nodup)) [],bF,bF,k6.o,bF,.c (pB (!decide (aM dc 0).Nodup)) [],bF,bT]) (gc Gc (gc Co (gt (FC Tp 203 [(.own 2)] [(2,(.row 3 ((aM dc 0).length) ((aM dc 0).map aA)))] 3 (pB (!decide (aM dc 0).Nodup)) []) (fv (vE (aM dc 0) Ef Hg)) (gc Co (gc k6 (Bn Co (gt (FC Tp 203 [(.own 1)] [(1,(.row 3 ((aM sk 0).length) ((aM sk 0).map aA)))] 2 (pB (!decide (aM sk 0).Nodup)) []) (fv (vE (aM sk 0) A5 B3)) (gc k5 (gc (aW h8) (Bn (aW h5) (gc k4 (Aw (aW h5) (Bn (aW h2) (gc k3 (Aw (aW h2) (gc k2 (gc (aS h1) (Dp (aW h0) (gc k1 gn)))))))))))))))))))
theorem bQo(Gc:(!decide (aM dc 0).Nodup)=false)(Iu:∀ x∈dc,uni 2 sk∧sk.length≤1000)(Kd:(dc.all (inB sk))=false):FV Tp 152 [(.p (.agg [(aA dl),(fS sk),(fS dc)]))] base (pI 1) []:=have k1:=fk 1 (bL (sk.length:Int) 1 30) rfl;have k2:=fk 1 (bL dl 0 10000) rfl;have k3:=fk 1 (tV sk h3 h4) rfl;have k4:=fk 1 (wP dc h6 h7) rfl;have k5:=fk 1 (mT dl sk dc h9) rfl;have k6:=fk 2 (aGx dl sk dc Dn) rfl;have k7:=fk 2 (aOw dc dl sk dc h6 h7 Iu) rfl;FV.fi func152 ([k1.o]++rF 6++[k2.o,bF,bF,bF,k3.o]++rF 5++[k4.o,bF,bF,bF,k5.o,.c (pB (!decide (aM sk 0).Nodup)) [],bF,bF,k6.o,bF,.c (pB (!decide (aM dc 0).Nodup)) [],bF,bF,.g 1 ⟨[],[1,2],[0],[]⟩,.x (fS dc),k7.o,bT]) (gc (cE Kd) (gc k7 (gr (fS dc) (gc Gc (gc Co (gt (FC Tp 203 [(.own 2)] [(2,(.row 3 ((aM dc 0).length) ((aM dc 0).map aA)))] 3 (pB (!decide (aM dc 0).Nodup)) []) (fv (vE (aM dc 0) Ef Hg)) (gc Co (gc k6 (Bn Co (gt (FC Tp 203 [(.own 1)] [(1,(.row 3 ((aM sk 0).length) ((aM sk 0).map aA)))] 2 (pB (!decide (aM sk 0).Nodup)) []) (fv (vE (aM sk 0) A5 B3)) (gc k5 (gc (aW h8) (Bn (aW h5) (gc k4 (Aw (aW h5) (Bn (aW h2) (gc k3 (Aw (aW h2) (gc k2 (gc (aS h1) (Dp (aW h0) (gc k1 gn))))))))))))))))))))))
theorem bQp(Gc:(!decide (aM dc 0).Nodup)=false)(Iu:∀ x∈dc,uni 2 sk∧sk.length≤1000)(Kd:(dc.all (inB sk))=true)(Pb:∀ x∈dc,inR (x.getD 0 0-1))(Pd:(dc.all (orB))=false):FV Tp 152 [(.p (.agg [(aA dl),(fS sk),(fS dc)]))] base (pI 4) []:=have k1:=fk 1 (bL (sk.length:Int) 1 30) rfl;have k2:=fk 1 (bL dl 0 10000) rfl;have k3:=fk 1 (tV sk h3 h4) rfl;have k4:=fk 1 (wP dc h6 h7) rfl;have k5:=fk 1 (mT dl sk dc h9) rfl;have k6:=fk 2 (aGx dl sk dc Dn) rfl;have k7:=fk 2 (aOw dc dl sk dc h6 h7 Iu) rfl;have k8:=fk 2 (bDy dc h6 h7 Pb) rfl;FV.fi func152 ([k1.o]++rF 6++[k2.o,bF,bF,bF,k3.o]++rF 5++[k4.o,bF,bF,bF,k5.o,.c (pB (!decide (aM sk 0).Nodup)) [],bF,bF,k6.o,bF,.c (pB (!decide (aM dc 0).Nodup)) [],bF,bF,.g 1 ⟨[],[1,2],[0],[]⟩,.x (fS dc),k7.o,bF,.x (fS dc),k8.o,bT]) (gc (cE Pd) (gc k8 (gr (fS dc) (gc (aW Kd) (gc k7 (gr (fS dc) (gc Gc (gc Co (gt (FC Tp 203 [(.own 2)] [(2,(.row 3 ((aM dc 0).length) ((aM dc 0).map aA)))] 3 (pB (!decide (aM dc 0).Nodup)) []) (fv (vE (aM dc 0) Ef Hg)) (gc Co (gc k6 (Bn Co (gt (FC Tp 203 [(.own 1)] [(1,(.row 3 ((aM sk 0).length) ((aM sk 0).map aA)))] 2 (pB (!decide (aM sk 0).Nodup)) []) (fv (vE (aM sk 0) A5 B3)) (gc k5 (gc (aW h8) (Bn (aW h5) (gc k4 (Aw (aW h5) (Bn (aW h2) (gc k3 (Aw (aW h2) (gc k2 (gc (aS h1) (Dp (aW h0) (gc k1 gn)))))))))))))))))))))))))
theorem bQq(Gc:(!decide (aM dc 0).Nodup)=false)(Iu:∀ x∈dc,uni 2 sk∧sk.length≤1000)(Kd:(dc.all (inB sk))=true)(Pb:∀ x∈dc,inR (x.getD 0 0-1))(Pd:(dc.all (orB))=true):FV Tp 152 [(.p (.agg [(aA dl),(fS sk),(fS dc)]))] base (pI 0) []:=have k1:=fk 1 (bL (sk.length:Int) 1 30) rfl;have k2:=fk 1 (bL dl 0 10000) rfl;have k3:=fk 1 (tV sk h3 h4) rfl;have k4:=fk 1 (wP dc h6 h7) rfl;have k5:=fk 1 (mT dl sk dc h9) rfl;have k6:=fk 2 (aGx dl sk dc Dn) rfl;have k7:=fk 2 (aOw dc dl sk dc h6 h7 Iu) rfl;have k8:=fk 2 (bDy dc h6 h7 Pb) rfl;FV.fi func152 ([k1.o]++rF 6++[k2.o,bF,bF,bF,k3.o]++rF 5++[k4.o,bF,bF,bF,k5.o,.c (pB (!decide (aM sk 0).Nodup)) [],bF,bF,k6.o,bF,.c (pB (!decide (aM dc 0).Nodup)) [],bF,bF,.g 1 ⟨[],[1,2],[0],[]⟩,.x (fS dc),k7.o,bF,.x (fS dc),k8.o,bF]) (gc (aW Pd) (gc k8 (gr (fS dc) (gc (aW Kd) (gc k7 (gr (fS dc) (gc Gc (gc Co (gt (FC Tp 203 [(.own 2)] [(2,(.row 3 ((aM dc 0).length) ((aM dc 0).map aA)))] 3 (pB (!decide (aM dc 0).Nodup)) []) (fv (vE (aM dc 0) Ef Hg)) (gc Co (gc k6 (Bn Co (gt (FC Tp 203 [(.own 1)] [(1,(.row 3 ((aM sk 0).length) ((aM sk 0).map aA)))] 2 (pB (!decide (aM sk 0).Nodup)) []) (fv (vE (aM sk 0) A5 B3)) (gc k5 (gc (aW h8) (Bn (aW h5) (gc k4 (Aw (aW h5) (Bn (aW h2) (gc k3 (Aw (aW h2) (gc k2 (gc (aS h1) (Dp (aW h0) (gc k1 gn)))))))))))))))))))))))))
end
end
section

def bDv(dl:Int)(sk dc:Lqq):Int :=
 if within (sk.length:Int) 1 30=false∨(40:Int)<(dc.length:Int) then 2
 else if within dl 0 10000=false∨sk.all skB=false∨dc.all dcB=false then 3
 else if ¬ (aM sk 0).Nodup∨¬ (aM dc 0).Nodup then 5
 else if dc.all (inB sk)=false then 1
 else if dc.all orB=false then 4 else 0

structure cT (dl:Int) (sk dc:Lqq):Prop where
 us:uni 2 sk
 ud:uni 6 dc
 len:1≤sk.length∧sk.length≤30
 len2:dc.length≤40
 hdl:0≤dl∧dl≤10000
 hsk:∀ x∈sk,skB x=true
 hdc:∀ x∈dc,dcB x=true
 ns:(aM sk 0).Nodup
 nd:(aM dc 0).Nodup
 inb:∀ x∈dc,inB sk x=true
 ord:∀ x∈dc,orB x=true

theorem bB{n lo hi:Int}:within n lo hi=true↔lo≤n∧n≤hi:=by simp [within]
theorem rV(f:Lqq)(j:Nat):(aM f j).length=f.length:=by simp [aM]
theorem aSg{f:Lqq}{j:Nat}{n:Int}(h:n∈aM f j):∃ x∈f,x.getD j 0=n:=by simpa [aM] using h
theorem zC{x:List Int}:skB x=true↔(1≤x.getD 0 0∧x.getD 0 0≤999) ∧ -1≤x.getD 1 0∧x.getD 1 0≤360000:=by
 unfold skB;rw [Bl,bB,bB]
theorem jB{x:List Int}:dcB x=true↔(1≤x.getD 0 0∧x.getD 0 0≤9999)∧(0≤x.getD 1 0∧x.getD 1 0≤9)∧(0≤x.getD 2 0∧x.getD 2 0≤10000)∧0≤x.getD 4 0∧x.getD 4 0≤lP (x.getD 1 0):=by
 unfold dcB;rw [Bl,Bl,Bl,bB,bB,bB,bB]

theorem bPv(dl:Int)(sk dc:Lqq)(us:uni 2 sk)(ud:uni 6 dc){base:Nat}:FV Tp 152 [.p (.agg (dQ dl sk dc))] base (.p (aA (bDv dl sk dc))) []:=by
 unfold bDv;cases h1:within (sk.length:Int) 1 30 with
 | false=>rw [if_pos (.inl rfl)];exact bQh h1
 | true =>
 have l1:=(bB.1 h1)
 by_cases h2:(40:Int)<(dc.length:Int)
 ·rw [if_pos (.inr h2)];exact bQi h1 h2
 rw [if_neg (by simp [h2])]
 have Et:(dc.length:Int)≤40:=by omega
 cases h3:within dl 0 10000 with
 | false=>rw [if_pos (.inl rfl)];exact bQj h1 Et h3
 | true =>
 have hs:sk.length≤1000:=by omega
 have hd:dc.length≤1000:=by omega
 cases h4:sk.all skB with
 | false=>rw [if_pos (.inr (.inl rfl))];exact bQk h1 Et h3 hs us h4
 | true =>
 cases h5:dc.all dcB with
 | false=>rw [if_pos (.inr (.inr rfl))];exact bQl h1 Et h3 hs us h4 hd ud h5
 | true =>
 rw [if_neg (by simp)]
 have b1:∀ x∈aM sk 0,-1000000≤x∧x≤1000000:=fun n hn=>by
  obtain ⟨x,hx,rfl⟩:=aSg hn;have:=zC.1 (fU.1 h4 x hx);omega
 have b2:∀ x∈aM dc 0,-1000000≤x∧x≤1000000:=fun n hn=>by
  obtain ⟨x,hx,rfl⟩:=aSg hn;have:=jB.1 (fU.1 h5 x hx);omega
 have b3:∀ x∈dc,inR (x.getD 0 0-1):=fun x hx=>by
  have:=jB.1 (fU.1 h5 x hx);unfold inR;omega
 have c1:(aM sk 0).length≤1000:=by rw [rV];exact hs
 have c2:(aM dc 0).length≤1000:=by rw [rV];exact hd
 by_cases h6:(aM sk 0).Nodup
 ·by_cases h7:(aM dc 0).Nodup
  ·rw [if_neg (by simp [h6,h7])]
   cases h8:dc.all (inB sk) with
   | false=>rw [if_pos rfl];exact bQo h1 Et h3 hs us h4 hd ud h5 ⟨us,hs⟩ c1 b1 (by simp [h6]) ⟨ud,hd⟩ c2 b2 (by simp [h7]) (fun _ _=>⟨us,hs⟩) h8
   | true =>
    rw [if_neg (by simp)]
    cases h9:dc.all orB with
    | false=>rw [if_pos rfl];exact bQp h1 Et h3 hs us h4 hd ud h5 ⟨us,hs⟩ c1 b1 (by simp [h6]) ⟨ud,hd⟩ c2 b2 (by simp [h7]) (fun _ _=>⟨us,hs⟩) h8 b3 h9
    | true=>rw [if_neg (by simp)];exact bQq h1 Et h3 hs us h4 hd ud h5 ⟨us,hs⟩ c1 b1 (by simp [h6]) ⟨ud,hd⟩ c2 b2 (by simp [h7]) (fun _ _=>⟨us,hs⟩) h8 b3 h9
  ·rw [if_pos (.inr h7)];exact bQn h1 Et h3 hs us h4 hd ud h5 ⟨us,hs⟩ c1 b1 (by simp [h6]) ⟨ud,hd⟩ c2 b2 (by simp [h7])
 ·rw [if_pos (.inl h6)];exact bQm h1 Et h3 hs us h4 hd ud h5 ⟨us,hs⟩ c1 b1 (by simp [h6])

theorem bIm{dl:Int}{sk dc:Lqq}(us:uni 2 sk)(ud:uni 6 dc):bDv dl sk dc=0↔cT dl sk dc:=by
 unfold bDv;constructor
 ·intro h
  split at h
  ·simp at h
  rename_i h1
  split at h
  ·simp at h
  rename_i h2
  split at h
  ·simp at h
  rename_i h3
  split at h
  ·simp at h
  rename_i h4
  split at h
  ·simp at h
  rename_i h5;simp only [not_or,Bool.not_eq_false,Int.not_lt,Classical.not_not] at h1 h2 h3 h4 h5
  have:=bB.1 h1.1;exact ⟨us,ud,by omega,by omega,bB.1 h2.1,fun x hx=>fU.1 h2.2.1 x hx,fun x hx=>fU.1 h2.2.2 x hx,h3.1,h3.2,fun x hx=>fU.1 h4 x hx,fun x hx=>fU.1 h5 x hx⟩
 ·intro h
  have e1:within (sk.length:Int) 1 30=true:=bB.2 (by have:=h.len;omega)
  have e2:within dl 0 10000=true:=bB.2 h.hdl;have e3:sk.all skB=true:=fU.2 h.hsk;have e4:dc.all dcB=true:=fU.2 h.hdc;have e5:dc.all (inB sk)=true:=fU.2 h.inb;have e6:dc.all orB=true:=fU.2 h.ord;have:=h.len2;rw [if_neg (by rw [e1];simp;omega),if_neg (by rw [e2,e3,e4];simp),if_neg (by simp [h.ns,h.nd]),if_neg (by rw [e5];simp),if_neg (by rw [e6];simp)]
end
end KV
end Go.Proofs
section
namespace Go.Proofs
open Go.RowKit Go.Lib Go.Sort
namespace KV
open Tryz

theorem aOi{P:Program}{C:Cx}{w w':World}{ty n b:Nat}{cs Bh:List PV}{arr D8:Array Value}(hM:aP P C [some (.row ty n cs)] w)(hι:C.ι 0=some b)(hb:w.heap[b]? = some (.cells arr ty (0,0)))
  (hos:w'.os=w.os) (htp:w'.tape=w.tape) (hou:w'.output=w.output) (hsz:w.heap.size≤w'.heap.size) (hot:∀ b',b'<w.heap.size→b'≠b→w'.heap[b']? = w.heap[b']?)
  (Al:w'.heap[b]? = some (.cells D8 ty (0,0))) (hsa:D8.size=arr.size) (hl:Bh.length=cs.length) (hr:∀ j (h:j<Bh.length),cB C.F w' Bh[j] (D8.getD j undef)) (ho:∀ j,j<Bh.length→(D8.getD j undef).oneCell'=true) :
  Fr C [some (.row ty n cs)] w C [some (.row ty n Bh)] w'∧aP P C [some (.row ty n Bh)] w':=by
 have Ij:∀ (id:Nat) (o:AO),([some (.row ty n cs)]:Mem)[id]? = some (some o)→id=0∧o = .row ty n cs:=fun id o h=>by
  cases id with
  | zero=>simp at h;exact ⟨rfl,h.symm⟩
  | succ i=>simp at h
 have Cp:∀ (id:Nat) (o:AO),([some (.row ty n Bh)]:Mem)[id]? = some (some o)→id=0∧o = .row ty n Bh:=fun id o h=>by
  cases id with
  | zero=>simp at h;exact ⟨rfl,h.symm⟩
  | succ i=>simp at h
 refine ⟨⟨hos,htp,hou,hsz,fun b' h1 h2=>hot b' h1 fun he => ?_,fun id o hm => ?_,fun id o hm Cn n' D4 hx => ?_,fun id o hm o' hx hl => ?_,fun id o b' hm hl hbb => ?_,fun _ h=>h,fun _ h => .inl h⟩,
  ⟨fun id Cn n' D4 hm => ?_,fun id Cn D4 hm => ?_,fun id es cl hm => ?_,fun id Eu o o' b' h1 _ h2 _ _ _ => ?_,fun id o b' hm hl hbb => ?_,fun b' hf=>Cg (hM.Fs b' hf) hsz,fun id o b' hm hl hbb => ?_⟩⟩
 ·subst he;exact h2 0 _ rfl rfl hι
 ·obtain ⟨rfl,rfl⟩:=Ij id o hm
  exact ⟨⟨_,rfl⟩,rfl,rfl⟩
 ·obtain ⟨rfl,rfl⟩:=Ij id o hm
  obtain ⟨_,he⟩:=Cp _ _ hx;cases he;exact ⟨cs,rfl⟩
 ·obtain ⟨rfl,rfl⟩:=Ij id o hm
  rfl
 ·obtain ⟨rfl,rfl⟩:=Cp id o hm
  exact .inr ⟨0,_,rfl,rfl,hbb⟩
 ·obtain ⟨rfl,he⟩:=Cp id _ hm
  cases he
  rcases hM.row 0 _ _ _ rfl with ⟨hn,_⟩ | ⟨b',Sa,i,q1,q2,q3,q4,q5,q6,q7,q8⟩
  ·rw [hι] at hn;cases hn
  ·rw [hι] at q1;cases q1
   rw [hb] at q2;cases q2
   exact .inr ⟨b,D8,i,hι,Al,q3,by rw [hsa,q4],by rw [hl,q5],q6,q7,hr,ho⟩
 ·obtain ⟨_,he⟩:=Cp id _ hm;cases he
 ·obtain ⟨_,he⟩:=Cp id _ hm;cases he
 ·obtain ⟨rfl,_⟩:=Cp id _ h1
  obtain ⟨rfl,_⟩:=Cp Eu _ h2;rfl
 ·obtain ⟨rfl,_⟩:=Cp id _ hm
  exact hM.nF 0 _ b' rfl rfl hbb
 ·obtain ⟨rfl,_⟩:=Cp id _ hm
  exact Cg (hM.lt 0 _ b' rfl rfl hbb) hsz

def lU(k:Nat)(x:List Int):List Value:=(List.range k).map fun i => .int .i64 (x.getD i 0)
theorem aBq(k:Nat)(x:List Int):(lU k x).length=k:=by simp [lU]
theorem aBr(k:Nat)(x:List Int):∀ v∈lU k x,v.oneCell'=true:=fun v hv=>by
 obtain ⟨i,_,rfl⟩:=dS.1 hv;rfl
def cfL(x y:List Int):Int:=compareInt (x.getD 0 0) (y.getD 0 0)
theorem ltL(x y:List Int):ltOf cfL x y=decide (x.getD 0 0<y.getD 0 0):=by
 unfold ltOf cfL compareInt;generalize x.getD 0 0=a;generalize y.getD 0 0=b
 by_cases h1:a<b
 ·simp [h1]
 ·by_cases h2:b<a <;> simp [h1,h2]
theorem bVi:SWO (ltOf cfL) where
 irrefl x:=by rw [ltL];simp
 trans x y z h1 h2:=by rw [ltL] at *;simp only [decide_eq_true_eq] at *;omega
 ntrans x y z h1 h2:=by rw [ltL] at *;simp only [decide_eq_false_iff_not] at *;omega
def aB(l:Lqq):Lqq:=l.mergeSort fun a b=>decide (a.getD 0 0≤b.getD 0 0)
theorem eW(l:Lqq):(aB l).Perm l:=List.mergeSort_perm _ _
theorem oR(l:Lqq):(aB l).Pairwise fun a b=>a.getD 0 0≤b.getD 0 0:=by
 have:=List.pairwise_mergeSort (le:=fun a b:List Int=>decide (a.getD 0 0≤b.getD 0 0)) (fun a b c h1 h2=>by simp only [decide_eq_true_eq] at *;omega) (fun a b=>by simp only [aKf,decide_eq_true_eq];omega) l
 exact this.imp fun h=>of_decide_eq_true h
theorem aSf{l:Lqq}(hn:(aM l 0).Nodup){a b:List Int}(ha:a∈l)(hb:b∈l)(h:a.getD 0 0=b.getD 0 0):a=b:=by
 induction l with
 | nil=>cases ha
 | cons x l ih =>
  unfold aM at hn ih
  rw [gY,List.nodup_cons] at hn
  rcases gX.1 ha with rfl | Jn <;> rcases gX.1 hb with rfl | Al
  ·rfl
  ·exact absurd (dS.2 ⟨b,Al,h.symm⟩) hn.1
  ·exact absurd (dS.2 ⟨a,Jn,h⟩) hn.1
  ·exact ih hn.2 Jn Al
theorem aOj{l l':Lqq}(hn:(aM l 0).Nodup)(hp:l'.Perm l)(hs:l'.Pairwise fun a b=>a.getD 0 0≤b.getD 0 0):l'=aB l :=
 List.Perm.eq_of_pairwise (le:=fun a b=>a.getD 0 0≤b.getD 0 0) (fun a b ha hb h1 h2=>aSf hn (hp.mem_iff.1 ha) ((eW l).mem_iff.1 hb) (by omega)) hs (oR l) (hp.trans (eW l).symm)
theorem bDu{k:Nat}{l l':Lqq}(hp:l'.Perm l)(hu:uni k l):uni k l':=fun x hx=>hu x (hp.mem_iff.1 hx)
theorem lF{k:Nat}{l:Lqq}(hu:uni k l):uni k (aB l):=bDu (eW l) hu
theorem fV(l:Lqq):(aB l).length=l.length:=(eW l).length_eq
end KV
end Go.Proofs
end
namespace Go.Proofs
namespace KV
open Tryz
section

abbrev dN(x:List Int):Int:=x.getD 0 0
abbrev dK(x:List Int):Int:=x.getD 1 0
abbrev dMi(x:List Int):Int:=x.getD 2 0
abbrev dB(x:List Int):Int:=x.getD 3 0
abbrev dMu(x:List Int):Int:=x.getD 4 0
abbrev dAb(x:List Int):Int:=x.getD 5 0
def iP(k:Int):Bool:=k == 4 || k == 7
def cJ(k:Int):Bool:=k == 8 || k == 9

def bK(dc:Lqq)(n:Int):Lqq:=dc.reverse.filter fun x=>dAb x == n

structure DS where
 x:List Int
 cnt:Bool
 upd:Bool
 rul:Option (List Int)
 chg:Option (List Int)
 much:Int

def mU(t:List DS)(n:Int):List DS:=t.reverse.filter fun s=>dAb s.x == n
def sP(dl:Int)(x:List Int):Bool:=iP (dK x) && decide (dl<dMi x)
def vF(x:List Int)(y:List Int):Bool:=dK y == 5 || (dK y == 7 && !cJ (dK x))
def bDq(x:List Int)(s:DS):Bool:=vF x s.x && s.cnt && (dK s.x == 5 || s.upd)
def mkS(dl:Int)(oc:List Int)(x:List Int)(t:List DS):DS :=
 ⟨x,!sP dl x && !((mU t (dN x)).any (bDq x)),
  match (mU t (dN x)).find? fun s=>cJ (dK s.x) && s.cnt with
   | some s=>dK s.x == 8
   | none=>oc.contains (dN x),
  ((mU t (dN x)).find? fun s=>cJ (dK s.x) && s.cnt).map (·.x),
  ((mU t (dN x)).find? fun s=>dK s.x == 6 && s.cnt).map (·.x),
  match (mU t (dN x)).find? fun s=>dK s.x == 6 && s.cnt with
   | some s=>s.much
   | none=>dMu x⟩
def kK(dl:Int)(oc:List Int):Lqq→List DS
 | []=>[]
 | x::r=>mkS dl oc x (kK dl oc r)::kK dl oc r

theorem bDr(dl:Int)(oc:List Int):∀ dc:Lqq,(kK dl oc dc).map (·.x)=dc
 | []=>rfl
 | x::r=>by rw [kK,gY,bDr dl oc r];rfl
theorem bIl(dl:Int)(oc:List Int)(dc:Lqq)(n:Int):(mU (kK dl oc dc) n).map (·.x)=bK dc n:=by
 unfold mU bK
 conv=>rhs;rw [← bDr dl oc dc]
 rw [← List.map_reverse,List.filter_map];rfl

structure bV (dc:Lqq):Prop where
 ud:uni 6 dc
 len:dc.length≤1000
 rng:∀ x∈dc,dcB x=true
 up:dc.Pairwise fun a b=>dN a<dN b
 ord:∀ x∈dc,orB x=true

theorem bV.tail{x:List Int}{r:Lqq}(h:bV (x::r)):bV r :=
 ⟨fun y hy=>h.ud y (Cj _ hy),by have:=h.len;simp at this;omega,fun y hy=>h.rng y (Cj _ hy),(bHs.1 h.up).2,fun y hy=>h.ord y (Cj _ hy)⟩
theorem aOg{a r:Lqq}{x:List Int}(h:bV (a++x::r)):bK (a++x::r) (dN x)=bK r (dN x):=by
 unfold bK;have e:a++x::r=(a++[x])++r:=by simp
 rw [e,List.reverse_append,sC];have:(a++[x]).reverse.filter (fun y=>dAb y == dN x)=[]:=by
  rw [List.filter_eq_nil_iff];intro y hy;have hy:y∈a++[x]:=aBb.1 hy;have hm:y∈a++x::r:=by rw [e];exact nR _ hy
  have Oz:1≤dN x:=(jB.1 (h.rng x (by simp))).1.1
  have hle:dN y≤dN x:=by
   rcases iE.1 hy with hy | hy
   ·exact Int.le_of_lt ((List.pairwise_append.1 h.up).2.2 y hy x (by simp))
   ·simp at hy;rw [hy];exact aNr _
  have ho:=h.ord y hm;unfold orB at ho
  simp only [beq_iff_eq];show ¬ y.getD 5 0=x.getD 0 0
  split at ho
  ·have:y.getD 5 0=0:=by simpa using ho
   unfold dN at Oz;omega
  ·have:=bB.1 ho
   unfold dN at hle;omega
 rw [this,List.append_nil]

def xX(L:List (Int × Lqq))(k:Int):Lqq:=match L.find? fun e=>e.1 == k with
 | some e=>e.2
 | none=>[]
def aDe(L:List (Int × Lqq))(k:Int)(v:Lqq):List (Int × Lqq):=if L.any (fun e=>e.1 == k) then L.map (fun e=>if e.1 == k then (k,v) else e) else L++[(k,v)]
def iH(L:List (Int × Lqq))(x:List Int):List (Int × Lqq):=if 0<dAb x then aDe L (dAb x) (xX L (dAb x)++[x]) else L
def abM(dc:Lqq):List (Int × Lqq):=dc.reverse.foldl iH []

structure aKn (q:Lqq) (L:List (Int × Lqq)):Prop where
 nd:(L.map (·.1)).Nodup
 mem:∀ e∈L,0<e.1∧e.2≠[]∧e.2=q.filter fun x=>dAb x == e.1
 all:∀ x∈q,0<dAb x→dAb x∈L.map (·.1)
theorem aKn.look{q:Lqq}{L:List (Int × Lqq)}(h:aKn q L){n:Int}(hn:0<n):xX L n=q.filter fun x=>dAb x == n:=by
 unfold xX;cases hf:L.find? fun e=>e.1 == n with
 | some e =>
  have h1:=wG hf;have h2:e.1=n:=by simpa using aVd hf
  rw [← h2];exact (h.mem e h1).2.2
 | none =>
  symm;rw [List.filter_eq_nil_iff];intro x hx he;have he:dAb x=n:=by simpa using he
  obtain ⟨e,h1,h2⟩:=dS.1 (h.all x hx (by omega))
  have:=aGo.1 hf e h1;exact this (by rw [h2,he];exact beq_self_eq_true n)
theorem bDs{L:List (Int × Lqq)}{k:Int}{v:Lqq}{e:Int × Lqq}(h:e∈aDe L k v):e=(k,v)∨(e∈L∧e.1≠k):=by
 unfold aDe at h
 split at h
 ·obtain ⟨z,hz,rfl⟩:=dS.1 h
  by_cases hk:z.1=k
  ·left;simp [hk]
  ·right;simp [hk,hz]
 ·rename_i hn
  rcases iE.1 h with h | h
  ·right
   refine ⟨h,fun hk=>hn (List.any_eq_true.2 ⟨e,h,by simpa using hk⟩)⟩
  ·left;simpa using h
theorem aWs{L:List (Int × Lqq)}{k:Int}{v:Lqq}:(k∈L.map (·.1)∧(aDe L k v).map (·.1)=L.map (·.1))∨(k∉L.map (·.1)∧(aDe L k v).map (·.1)=L.map (·.1)++[k]):=by
 unfold aDe
 by_cases h:L.any (fun e=>e.1 == k)=true
 ·left
  rw [if_pos h];refine ⟨?_,?_⟩
  ·obtain ⟨e,h1,h2⟩:=List.any_eq_true.1 h
   exact dS.2 ⟨e,h1,by simpa using h2⟩
  ·rw [qK]
   refine yL fun e _ => ?_
   by_cases hk:e.1=k
   ·simp [hk]
   ·simp [hk]
 ·right
  rw [if_neg h];refine ⟨fun hm=>h ?_,by simp⟩
  obtain ⟨e,h1,h2⟩:=dS.1 hm;exact List.any_eq_true.2 ⟨e,h1,by simpa using h2⟩
theorem aKn.step{q:Lqq}{L:List (Int × Lqq)}(h:aKn q L)(x:List Int)(hx:0≤dAb x):aKn (q++[x]) (iH L x):=by
 unfold iH
 by_cases hp:0<dAb x
 ·rw [if_pos hp]
  have hk:=aWs (L:=L) (k:=dAb x) (v:=xX L (dAb x)++[x]);refine ⟨?_,fun e he => ?_,fun y hy h0 => ?_⟩
  ·rcases hk with ⟨_,hk⟩ | ⟨hn,hk⟩
   ·rw [hk];exact h.nd
   ·rw [hk,List.nodup_append]
    exact ⟨h.nd,by simp,fun a ha b hb he=>hn (by rw [← List.mem_singleton.1 hb,← he];exact ha)⟩
  ·rcases bDs he with rfl | ⟨h1,h2⟩
   ·refine ⟨hp,by simp,?_⟩
    dsimp only;rw [h.look hp,sC];simp
   ·obtain ⟨q1,q2,q3⟩:=h.mem e h1
    refine ⟨q1,q2,?_⟩;rw [sC,← q3];have:[x].filter (fun y=>dAb y == e.1)=[]:=by
     rw [List.filter_eq_nil_iff];intro y hy;simp at hy
     subst hy;simpa using fun he=>h2 he.symm
    rw [this,List.append_nil]
  ·have:dAb y=dAb x∨dAb y∈L.map (·.1):=by
    rcases iE.1 hy with hy | hy
    ·exact .inr (h.all y hy h0)
    ·simp at hy;left;rw [hy]
   rcases hk with ⟨hm,hk⟩ | ⟨hn,hk⟩
   ·rw [hk]
    rcases this with h1 | h1
    ·rw [h1];exact hm
    ·exact h1
   ·rw [hk]
    rcases this with h1 | h1
    ·rw [h1];simp
    ·exact nR _ h1
 ·rw [if_neg hp]
  have h0:dAb x=0:=by omega
  refine ⟨h.nd,fun e he => ?_,fun y hy h1 => ?_⟩
  ·obtain ⟨q1,q2,q3⟩:=h.mem e he
   refine ⟨q1,q2,?_⟩;rw [sC,← q3];have:[x].filter (fun y=>dAb y == e.1)=[]:=by
    rw [List.filter_eq_nil_iff];intro y hy;simp at hy
    subst hy;simp only [beq_iff_eq];omega
   rw [this,List.append_nil]
  ·rcases iE.1 hy with hy | hy
   ·exact h.all y hy h1
   ·simp at hy;rw [hy] at h1;omega
theorem wO:∀ (p q:Lqq) (L:List (Int × Lqq)),aKn q L→(∀ x∈p,0≤dAb x)→aKn (q++p) (p.foldl iH L)
 | [],q,L,h,_=>by simpa using h
 | x::p,q,L,h,hp=>by
  have:=wO p (q++[x]) (iH L x) (h.step x (hp x (jQ ..))) (fun y hy=>hp y (Cj _ hy))
  simpa using this
theorem lE{dc:Lqq}(h:bV dc):∀ x∈dc,0≤dAb x∧dAb x≤9998:=fun x hx=>by
 have h1:=jB.1 (h.rng x hx);have ho:=h.ord x hx;unfold orB at ho
 show 0≤x.getD 5 0∧x.getD 5 0≤9998
 split at ho
 ·have:x.getD 5 0=0:=by simpa using ho
  omega
 ·have:=bB.1 ho;omega
theorem aOh{dc:Lqq}(h:bV dc):aKn dc.reverse (abM dc):=by
 have:=wO dc.reverse [] [] ⟨by simp,fun e he=>(by cases he),fun x hx=>(by cases hx)⟩ (fun x hx=>(lE h x (by simpa using hx)).1)
 simpa [abM] using this
theorem bDt{dc:Lqq}(h:bV dc){n:Int}(hn:0<n):xX (abM dc) n=bK dc n:=(aOh h).look hn
end
section

def stF(dl:Int)(oc:List Int)(dc:Lqq)(x:List Int):DS:=((kK dl oc dc).find? fun s=>s.x == x).getD (mkS dl oc x [])
def dI(dl:Int)(oc:List Int)(dc:Lqq)(x:List Int):Bool:=(stF dl oc dc x).cnt
def aGy(dl:Int)(oc:List Int)(dc:Lqq)(x:List Int):Bool:=(stF dl oc dc x).upd
def tU(dl:Int)(oc:List Int)(dc:Lqq)(x:List Int):Option (List Int):=(stF dl oc dc x).rul
def aGz(dl:Int)(oc:List Int)(dc:Lqq)(x:List Int):Option (List Int):=(stF dl oc dc x).chg
def pF(dl:Int)(oc:List Int)(dc:Lqq)(x:List Int):Int:=(stF dl oc dc x).much

theorem aKl{a r:Lqq}{x:List Int}(h:bV (a++x::r)){y:List Int}(hy:y∈a):dN y<dN x:=(List.pairwise_append.1 h.up).2.2 y hy x (by simp)
theorem aKm(dl:Int)(oc:List Int){x:List Int}{r:Lqq}:∀ (a:Lqq),bV (a++x::r)→(kK dl oc (a++x::r)).find? (fun s=>s.x == x)=some (mkS dl oc x (kK dl oc r))
 | [],h=>by
  simp only [List.nil_append,kK];rw [List.find?_cons_of_pos];show (mkS dl oc x (kK dl oc r)).x == x;exact beq_self_eq_true x
 | y::a,h=>by
  simp only [List.cons_append,kK];rw [List.find?_cons_of_neg,aKm dl oc a h.tail];show ¬ ((mkS dl oc y (kK dl oc (a++x::r))).x == x)=true;have h1:=aKl h (y:=y) (by simp)
  intro he;have:y=x:=by simpa [mkS] using he
  rw [this] at h1;omega
theorem aBm{dl:Int}{oc:List Int}{a r:Lqq}{x:List Int}(h:bV (a++x::r)):stF dl oc (a++x::r) x=mkS dl oc x (kK dl oc r):=by
 unfold stF;rw [aKm dl oc a h];rfl
theorem aSc(dl:Int)(oc:List Int)(r:Lqq):∀ a:Lqq,∃ l,kK dl oc (a++r)=l++kK dl oc r
 | []=>⟨[],rfl⟩
 | y::a=>by
  obtain ⟨l,h⟩:=aSc dl oc r a;exact ⟨mkS dl oc y (kK dl oc (a++r))::l,by simp [kK,h]⟩
theorem aSd{dl:Int}{oc:List Int}{s:DS}:∀ {dc:Lqq},s∈kK dl oc dc→∃ a r,dc=a++s.x::r∧s=mkS dl oc s.x (kK dl oc r)
 | [],h=>by simp [kK] at h
 | y::q,h=>by
  simp only [kK,gX] at h
  rcases h with rfl | h
  ·exact ⟨[],q,rfl,rfl⟩
  ·obtain ⟨a,r,h1,h2⟩:=aSd h
   exact ⟨y::a,r,by rw [h1];rfl,h2⟩
theorem aWr{dl:Int}{oc:List Int}{dc:Lqq}{s:DS}(h:bV dc)(hs:s∈kK dl oc dc):stF dl oc dc s.x=s:=by
 obtain ⟨a,r,h1,h2⟩:=aSd hs;subst h1;rw [aBm h,← h2]
theorem aOf{dl:Int}{oc:List Int}{dc:Lqq}{x:List Int}(h:bV dc)(hx:x∈dc):(stF dl oc dc x).x=x:=by
 obtain ⟨a,r,rfl⟩:=List.append_of_mem hx;rw [aBm h];rfl
theorem qQ{dl:Int}{oc:List Int}{a r:Lqq}{x:List Int}(h:bV (a++x::r)):mU (kK dl oc r) (dN x)=(bK (a++x::r) (dN x)).map (stF dl oc (a++x::r)):=by
 rw [aOg h,← bIl dl oc r (dN x),qK]
 conv=>lhs;rw [← List.map_id (mU (kK dl oc r) (dN x))]
 refine yL fun s hs => ?_
 have hs:s∈kK dl oc r:=by
  unfold mU at hs
  exact aBb.1 (wI.1 hs).1
 have e:a++x::r=(a++[x])++r:=by simp
 have:s∈kK dl oc (a++x::r):=by
  obtain ⟨l,hl⟩:=aSc dl oc r (a++[x]);rw [e,hl];exact aDb _ hs
 exact (aWr h this).symm

theorem dX{dc:Lqq}{n:Int}{y:List Int}(h:y∈bK dc n):y∈dc∧dAb y=n:=by
 unfold bK at h
 obtain ⟨h1,h2⟩:=wI.1 h;exact ⟨aBb.1 h1,by simpa using h2⟩
section
variable {dl:Int} {oc:List Int} {dc:Lqq} {x:List Int}
theorem bPs(h:bV dc)(l:Lqq)(hl:∀ y∈l,y∈dc)(f:DS→Bool)(g:List Int→Bool)(hfg:∀ y∈dc,f (stF dl oc dc y)=g y):(l.map (stF dl oc dc)).any f=l.any g:=by
 rw [List.any_map]
 induction l with
 | nil=>rfl
 | cons y l ih =>
  rw [List.any_cons,List.any_cons,ih fun z hz=>hl z (Cj _ hz)]
  rw [Function.comp,hfg y (hl y (jQ ..))]
theorem zB(h:bV dc)(l:Lqq)(hl:∀ y∈l,y∈dc)(f:DS→Bool)(g:List Int→Bool)(hfg:∀ y∈dc,f (stF dl oc dc y)=g y):(l.map (stF dl oc dc)).find? f=(l.find? g).map (stF dl oc dc):=by
 induction l with
 | nil=>rfl
 | cons y l ih =>
  rw [gY,List.find?_cons,List.find?_cons,hfg y (hl y (jQ ..)),ih fun z hz=>hl z (Cj _ hz)]
  cases g y <;> rfl
theorem bPt(h:bV dc)(hx:x∈dc):dI dl oc dc x=(!sP dl x && !((bK dc (dN x)).any fun y=>vF x y && dI dl oc dc y && (dK y == 5 || aGy dl oc dc y))):=by
 obtain ⟨a,r,rfl⟩:=List.append_of_mem hx;unfold dI;rw [aBm h];simp only [mkS];rw [qQ h,bPs (dl:=dl) (oc:=oc) h _ (fun y hy=>(dX hy).1) (bDq x) (fun y=>vF x y && dI dl oc (a++x::r) y && (dK y == 5 || aGy dl oc (a++x::r) y)) (fun y hy => ?_)]
 ·rfl
 ·unfold bDq dI aGy
  rw [aOf h hy]
theorem sO{l:Lqq}{g:List Int→Bool}{y:List Int}(h:l.find? g=some y):y∈l:=wG h
theorem aBn(h:bV dc)(l:Lqq)(hl:∀ y∈l,y∈dc)(g:List Int→Bool):((l.find? g).map (stF dl oc dc)).map (·.x)=l.find? g:=by
 cases hf:l.find? g with
 | none=>rfl
 | some y=>simp only [Option.map_some];rw [aOf h (hl y (sO hf))]
theorem aBo(h:bV dc)(hx:x∈dc):tU dl oc dc x=(bK dc (dN x)).find? fun y=>cJ (dK y) && dI dl oc dc y:=by
 obtain ⟨a,r,rfl⟩:=List.append_of_mem hx;unfold tU;rw [aBm h];simp only [mkS];rw [qQ h,zB (dl:=dl) (oc:=oc) h _ (fun y hy=>(dX hy).1) _ (fun y=>cJ (dK y) && dI dl oc (a++x::r) y) (fun y hy => ?_),aBn h _ (fun y hy=>(dX hy).1)]
 unfold dI;rw [aOf h hy]
theorem bPu(h:bV dc)(hx:x∈dc):aGy dl oc dc x=match tU dl oc dc x with | some y=>dK y == 8 | none=>oc.contains (dN x):=by
 rw [aBo h hx];obtain ⟨a,r,rfl⟩:=List.append_of_mem hx;unfold aGy;rw [aBm h];simp only [mkS];rw [qQ h,zB (dl:=dl) (oc:=oc) h _ (fun y hy=>(dX hy).1) _ (fun y=>cJ (dK y) && dI dl oc (a++x::r) y) (fun y hy => ?_)]
 ·cases hf:(bK (a++x::r) (dN x)).find? fun y=>cJ (dK y) && dI dl oc (a++x::r) y with
  | none=>rfl
  | some y=>simp only [Option.map_some];rw [aOf h (dX (sO hf)).1]
 ·unfold dI;rw [aOf h hy]
theorem aBp(h:bV dc)(hx:x∈dc):aGz dl oc dc x=(bK dc (dN x)).find? fun y=>dK y == 6 && dI dl oc dc y:=by
 obtain ⟨a,r,rfl⟩:=List.append_of_mem hx;unfold aGz;rw [aBm h];simp only [mkS];rw [qQ h,zB (dl:=dl) (oc:=oc) h _ (fun y hy=>(dX hy).1) _ (fun y=>dK y == 6 && dI dl oc (a++x::r) y) (fun y hy => ?_),aBn h _ (fun y hy=>(dX hy).1)]
 unfold dI;rw [aOf h hy]
theorem aSe(h:bV dc)(hx:x∈dc):pF dl oc dc x=match aGz dl oc dc x with | some y=>pF dl oc dc y | none=>dMu x:=by
 rw [aBp h hx];obtain ⟨a,r,rfl⟩:=List.append_of_mem hx;unfold pF;rw [aBm h];simp only [mkS];rw [qQ h,zB (dl:=dl) (oc:=oc) h _ (fun y hy=>(dX hy).1) _ (fun y=>dK y == 6 && dI dl oc (a++x::r) y) (fun y hy => ?_)]
 ·cases hf:(bK (a++x::r) (dN x)).find? fun y=>dK y == 6 && dI dl oc (a++x::r) y with
  | none=>rfl
  | some y=>rfl
 ·unfold dI;rw [aOf h hy]
theorem bDp(h:bV dc){y:List Int}(hy:y∈dc){n:Int}(hn:dAb y=n)(h1:1≤n):n<dN y:=by
 have ho:=h.ord y hy;unfold orB at ho
 split at ho
 ·have:y.getD 5 0=0:=by simpa using ho
  rw [show y.getD 5 0=dAb y from rfl] at this;omega
 ·have:=bB.1 ho
  rw [show y.getD 5 0=dAb y from rfl] at this
  rw [show y.getD 0 0=dN y from rfl] at this
  omega
end
end
end KV
end Go.Proofs
