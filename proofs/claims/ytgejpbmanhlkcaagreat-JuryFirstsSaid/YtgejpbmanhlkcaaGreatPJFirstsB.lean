/- Parts of the proof of JFirsts: laws of walks, contracts of functions, plain models. No condition. -/
import Derived.Test.YtgejpbmanhlkcaaGreatProg
import Derived.ProofKit
import Derived.Carry
import Derived.Deep.Slices
import Derived.RangeFuncLeaves
import Derived.OwnWalkIn
import Derived.TacticsInMore
import Derived.Shelf.SlSortCmp.WholeK
import Derived.Shelf.SlicesG.Cmp
import Derived.Ground.SlsfProg
import Derived.Ground.SlgcProg
import Derived.Ground.NamesProg
import Derived.Shelf.SlSortCmp.NoneTotal
import Derived.Lib.OwnBridge
import Derived.Shelf.Slices.Clone
import Derived.Test.YtgejpbmanhlkcaaGreatPJFirstsA
set_option linter.unusedVariables false
set_option linter.unusedSimpArgs false
set_option maxRecDepth 100000
namespace Go.Proofs
namespace KV
open Tryz
section
variable {P:Program} {T:TT} {E:Env} {C C0:Cx} {M M0:Mem} {w w0:World}

def cost(o:Oper):Nat:=match o.op with
 | .alloc _ | .box _ _ | .buildSlice _ _ _ | .makeSlice _ _ _=>1
 | .call c=>match c.callee with
  | .builtin _=>1
  | _=>8
 | _=>0
def ido(ops:List Oper)(base k:Nat):Nat:=base+((ops.take k).map cost).sum

abbrev xK:=AV × Upd × Option (List Nat)
def aDd(q:xK):Ft:=⟨q.2.2,q.2.1.map (·.1)⟩

def aYq(o:Oper)(vs:List AV)(m:Mem)(id:Nat):Ask (Option (List Nat)):=fun s=>some (fpQ o vs m id s,s)
theorem bNj{o:Oper}{vs:List AV}{m:Mem}{id:Nat}{s s':AS}{b:Option (List Nat)}(h:aYq o vs m id s=some (b,s')):b=fpQ o vs m id s∧s'=s:=by
 unfold aYq at h
 cases h;exact ⟨rfl,rfl⟩
theorem aSg{o:Oper}{vs:List AV}{m:Mem}{id:Nat}:cJ (aYq o vs m id):=fun s r s' e p hp=>by obtain ⟨_,rfl⟩:=bNj e;exact hp
def aSh(P:Program)(T:TT)(E:Env)(ops:List Oper):List Oper→Nat→St→Ask (List Ft × St)
 | [],_,st=>pure ([],st)
 | o::r,id,st=>do
  let go ← jU ops o st
  match go with
  | true=>do
   let vs ← lift (evs st o.op.operands.toList)
   let fp ← aYq o vs st.m id
   let q ← oI P T E o vs st.m id
   let y ← aSh P T E ops r (id+cost o) ⟨put st.t o.dst q.1,upds st.m q.2⟩
   pure (⟨fp,q.2.map (·.1)⟩::y.1,y.2)
  | false=>do
   let y ← aSh P T E ops r (id+cost o) ⟨put st.t o.dst (.tup []),st.m⟩
   pure (⟨some [],[]⟩::y.1,y.2)

def sL(ops:Array Oper):Nat→Nat→Nat→Bool
 | 0,_,_=>false
 | n+1,k,j=>match ops[j]? with
  | some oj=>(oj.after.any fun e=>Region.binds .any e && e.on == k) || oj.after.any fun e=>Region.binds .any e && sL ops n k e.on
  | none=>false
def aKc(ops:Array Oper)(k:Nat)(f:Ft):Nat→List Ft→Bool
 | _,[]=>true
 | j,g::r=>(aSk f g || sL ops 5 k j) && aKc ops k f (j+1) r
def aKd(ops:Array Oper):Nat→List Ft→Bool
 | _,[]=>true
 | k,f::r=>aKc ops k f (k+1) r && aKd ops (k+1) r

def next(o:Oper)(q:xK)(st:St):St:=⟨put st.t o.dst q.1,upds st.m q.2.1⟩

inductive aNx (P:Program) (T:TT) (E:Env) (ops:List Oper):Nat→List Oper→St→List xK→St→Prop
 | nil (id:Nat) (st:St):aNx P T E ops id [] st [] st
 | cons (id:Nat) (o:Oper) (l:List Oper) (st:St) (q:xK) (os:List xK) (fin:St) (h:sN P T E ops o id st q.1 q.2.1 q.2.2) (hr:aNx P T E ops (id+cost o) l (next o q st) os fin):aNx P T E ops id (o::l) st (q::os) fin

theorem qC{ops:List Oper}:∀ {l:List Oper} {id:Nat} {st:St},cJ (aSh P T E ops l id st)
 | [],_,_=>aM _
 | _::_,_,_=>by
  unfold aSh;refine bG aDs fun _ => ?_
  split
  ·exact aL fun _=>bG aSg fun _=>bG qX fun _=>bG qC fun _=>aM _
  ·exact bG qC fun _=>aM _

theorem sM{ops:List Oper}:∀ (l:List Oper) (id:Nat) {st fin:St} {fts:List Ft} {s s':AS},aSh P T E ops l id st s=some ((fts,fin),s')→bC s'→∃ os:List xK,fts=os.map aDd∧aNx P T E ops id l st os fin
 | [],id,st,fin,fts,s,s',h,g=>by
  obtain ⟨he,rfl⟩:=aK h;cases he;exact ⟨[],rfl,.nil _ _⟩
 | o::l,id,st,fin,fts,s,s',h,g=>by
  unfold aSh at h
  obtain ⟨go,s1,h1,k1⟩:=aD h;cases go with
  | true =>
   obtain ⟨vs,s2,h2,k2⟩:=aD k1;obtain ⟨e2,rfl⟩:=aF h2;obtain ⟨au,sa,ha,ka⟩:=aD k2;obtain ⟨rfl,rfl⟩:=bNj ha;obtain ⟨q,s3,h3,k3⟩:=aD ka;obtain ⟨y,s4,h4,k4⟩:=aD k3;obtain ⟨he,rfl⟩:=aK k4;cases he;obtain ⟨os,e5,hl⟩:=sM l _ (fts:=y.1) (fin:=y.2) h4 g;have g3:=qC.good h4 g;exact ⟨(q.1,q.2,fpQ o vs st.m id sa)::os,by rw [fZ,e5];rfl,.cons _ _ _ _ (q.1,q.2,fpQ o vs st.m id sa) _ _ ⟨s,sa,.inr ⟨h1,vs,s3,e2,h3,g3,rfl⟩⟩ hl⟩
  | false =>
   obtain ⟨y,s4,h4,k4⟩:=aD k1;obtain ⟨he,rfl⟩:=aK k4;cases he;obtain ⟨os,e5,hl⟩:=sM l _ (fts:=y.1) (fin:=y.2) h4 g;exact ⟨(.tup [],[],some [])::os,by rw [fZ,e5];rfl,.cons _ _ _ _ (.tup [],[],some []) _ _ ⟨s,s1,.inl ⟨h1,qC.good h4 g,rfl,rfl,rfl⟩⟩ hl⟩

def qD(P:Program)(T:TT)(E:Env)(ops:List Oper)(base:Nat)(out:Nat→xK)(fin:St):Nat→Array Bool→St→Prop
 | 0,listed,st=>Region.ready .any ops.toArray listed=[]∧st=fin
 | fuel+1,listed,st=>(Region.ready .any ops.toArray listed=[]→st=fin) ∧
  ∀ j∈Region.ready .any ops.toArray listed,∃ o,ops[j]? = some o∧sN P T E ops o (ido ops base j) st (out j).1 (out j).2.1 (out j).2.2∧qD P T E ops base out fin fuel (listed.setIfInBounds j true) (next o (out j) st)

def aDe(ops:List Oper)(listed:Array Bool):Prop:=∀ j oj,ops[j]? = some oj→listed.getD j false=true→∀ e∈oj.after,Region.binds .any e=true→listed.getD e.on false=true

theorem aHq{ops:List Oper}{listed:Array Bool}{i:Nat}(hc:aDe ops listed)(hi:listed.getD i false=false):∀ (n j:Nat),(∀ oj,ops[j]? = some oj→∀ e∈oj.after,Region.binds .any e=true→listed.getD e.on false=true)→sL ops.toArray n i j=false
 | 0,_,_=>rfl
 | n+1,j,h=>by
  unfold sL;cases hj:ops[j]? with
  | none=>simp [hj]
  | some oj =>
   simp only [List.getElem?_toArray,hj,Bool.or_eq_false_iff];refine ⟨?_,?_⟩
   ·rw [Bool.eq_false_iff]
    intro hw;obtain ⟨e,he,hb⟩:=Array.any_eq_true'.1 hw;simp only [B7,beq_iff_eq] at hb
    have:=h oj hj e he hb.1;rw [hb.2,hi] at this
    cases this
   ·rw [Bool.eq_false_iff]
    intro hw;obtain ⟨e,he,hb⟩:=Array.any_eq_true'.1 hw;simp only [B7] at hb
    have h1:=h oj hj e he hb.1;rw [aHq hc hi n e.on (fun o ho e' Ru A1=>hc e.on o ho h1 e' Ru A1)] at hb
    cases hb.2

theorem aDf{ops:List Oper}{listed:Array Bool}{j:Nat}(hc:aDe ops listed)(hj:∀ oj,ops[j]? = some oj→∀ e∈oj.after,Region.binds .any e=true→listed.getD e.on false=true):aDe ops (listed.setIfInBounds j true):=fun k ok hk hl e he hb=>by
 refine getD_set_true ?_
 by_cases h:j=k
 ·subst h;exact hj ok hk e he hb
 ·rw [getD_set_ne false h] at hl
  exact hc k ok hk hl e he hb

theorem qD.first{ops:List Oper}{base:Nat}{out:Nat→xK}{fin:St}{i:Nat}{oi:Oper}(hi:ops[i]? = some oi):∀ (fuel:Nat) (listed:Array Bool) (st:St),
  (∀ j oj,ops[j]? = some oj→j≠i→listed.getD j true=false→(∀ e∈oj.after,Region.binds .any e=true→e.on≠i)→oi.apart ops.toArray oj=true∧(aSk (aDd (out i)) (aDd (out j))=true∨sL ops.toArray 5 i j=true))→aDe ops listed →
  i∈Region.ready .any ops.toArray listed→sN P T E ops oi (ido ops base i) st (out i).1 (out i).2.1 (out i).2.2→qD P T E ops base out fin fuel (listed.setIfInBounds i true) (next oi (out i) st)→qD P T E ops base out fin (fuel+1) listed st:=by
 intro fuel
 induction fuel with
 | zero =>
  intro listed st _ _ hr hs H;refine ⟨fun h=>(by rw [h] at hr;cases hr),fun j hj => ?_⟩
  by_cases hji:j=i
  ·subst hji;exact ⟨oi,hi,hs,H⟩
  ·have:=ready_mono hj hji
   rw [H.1] at this
   cases this
 | succ fuel ih =>
  intro listed st hfree hcl hr hs H;refine ⟨fun h=>(by rw [h] at hr;cases hr),fun j hj => ?_⟩
  by_cases hji:j=i
  ·subst hji;exact ⟨oi,hi,hs,H⟩
  ·obtain ⟨oj,hoj,hsj,hH⟩:=H.2 j (ready_mono hj hji)
   obtain ⟨hjun,Nv,N8,hall⟩:=mem_ready.1 hj;have:Nv=oj:=by
    rw [List.getElem?_toArray,hoj] at N8
    cases N8;rfl
   subst this;have hnot:∀ e∈Nv.after,Region.binds .any e=true→e.on≠i:=fun e he hb heq=>by
    have h1:=hall e he hb;have h0:=(mem_ready.1 hr).1;rw [heq] at h1
    rcases Nat.lt_or_ge i listed.size with h' | h'
    ·simp [h'] at h0 h1;rw [h0] at h1;cases h1
    ·simp [Array.getElem?_eq_none h'] at h1
   have Lu:listed.getD j true=false:=by
    rcases Nat.lt_or_ge j listed.size with h' | h'
    ·simpa [h'] using hjun
    ·exact hjun
   obtain ⟨hap,hok⟩:=hfree j Nv hoj hji Lu hnot;have hjall:∀ oj,ops[j]? = some oj→∀ e∈oj.after,Region.binds .any e=true→listed.getD e.on false=true:=fun o ho e he hb=>by
    rw [hoj] at ho;cases ho;exact hall e he hb
   have hiun:listed.getD i false=false:=by
    have h0:=(mem_ready.1 hr).1
    rcases Nat.lt_or_ge i listed.size with h' | h'
    ·simp [h'] at h0 ⊢;exact h0
    ·simp [Nat.not_lt.2 h']
   replace hok:=hok.resolve_right (by rw [aHq hcl hiun 5 j hjall];simp)
   obtain ⟨m1,m2,m3,m4⟩:=sN.move hap hok hs hsj;have hnx:next Nv (out j) (next oi (out i) st)=next oi (out i) (next Nv (out j) st):=by
    unfold next;simp only [m3,m4]
   refine ⟨Nv,hoj,m1,ih _ _ (fun k ok hk hki hun hno=>hfree k ok hk hki ?_ hno) (aDf hcl hjall) (ready_mono hr (Ne.symm hji)) m2 ?_⟩
   ·by_cases hjk:j=k
    ·subst hjk;exact Lu
    ·rw [getD_set_ne true hjk] at hun;exact hun
   ·rw [hnx,Array.setIfInBounds_comm _ _ (Ne.symm hji)] at hH
    exact hH

theorem bNk{ops:List Oper}{base k:Nat}{o:Oper}(h:ops[k]? = some o):ido ops base (k+1)=ido ops base k+cost o:=by
 unfold ido;rw [List.take_add_one,h];simp [Nat.add_assoc]

theorem qD.lex{ops:List Oper}{base:Nat}{out:Nat→xK}{fin:St}:∀ (l:List Oper) (k:Nat) (listed:Array Bool) (st:St) (os:List xK),(∀ j,l[j]? = ops[k+j]?)→(∀ j q,os[j]? = some q→out (k+j)=q)→(∀ j,j<k→listed.getD j true=true)→aDe ops listed →
  (∀ i j,k≤i→i<j→(ops[j]?).isSome→aSk (aDd (out i)) (aDd (out j))=true∨sL ops.toArray 5 i j=true) →
  Region.lexFrom .any ops.toArray l.length k listed=true→aNx P T E ops (ido ops base k) l st os fin→qD P T E ops base out fin l.length listed st
 | [],k,listed,st,os,_,_,_,_,_,hB,h=>by
  cases h;exact ⟨by simpa [Region.lexFrom] using hB,rfl⟩
 | o::l,k,listed,st,os,hl,ho,hk,hcl,hA,hB,h=>by
  cases h with
  | cons _ _ _ _ q os _ hs hr =>
   have h0:ops[k]? = some o:=by simpa using (hl 0).symm
   have hq:out k=q:=ho 0 q rfl;simp only [nX,Region.lexFrom,B7] at hB
   obtain ⟨⟨hrd,hf⟩,Rv⟩:=hB;have Um:ops.toArray[k]? = some o:=by rw [List.getElem?_toArray];exact h0
   have N9:k∈Region.ready .any ops.toArray listed:=by simpa using hrd
   have hkall:∀ oj,ops[k]? = some oj→∀ e∈oj.after,Region.binds .any e=true→listed.getD e.on false=true:=fun o' Dw e he hb=>by
    obtain ⟨_,o2,Kj,hall⟩:=mem_ready.1 N9;rw [Um] at Kj;cases Kj
    rw [h0] at Dw;cases Dw
    exact hall e he hb
   refine qD.first h0 l.length listed st (fun j oj hj hjk hun hno => ?_) hcl N9 (by rw [hq];exact hs) ?_
   ·refine ⟨Region.free_spec Um hf j oj (by rw [List.getElem?_toArray];exact hj) hjk hun hno,?_⟩
    have hlt:k<j:=by
     rcases Nat.lt_trichotomy k j with h1 | h1 | h1
     ·exact h1
     ·exact absurd h1.symm hjk
     ·rw [hk j h1] at hun;cases hun
    exact hA k j (dG _) hlt (by rw [hj];rfl)
   ·rw [hq]
    refine qD.lex l (k+1) _ _ os (fun j=>by have:=hl (j+1);simpa [Nat.add_assoc,Nat.add_comm 1 j] using this) (fun j q' hj=>by have:=ho (j+1) q' (by simpa using hj);rw [← this];congr 1;omega) (fun j hj => ?_) (aDf hcl hkall)
     (fun i j hi=>hA i j (by omega)) Rv (by rw [bNk h0];exact hr)
    by_cases e:k=j
    ·subst e
     rcases Nat.lt_or_ge k listed.size with h' | h'
     ·simp [h']
     ·simp [Nat.not_lt.2 h']
    ·rw [getD_set_ne true e];exact hk j (by omega)

theorem aAt{ops:Array Oper}{k:Nat}{f:Ft}:∀ (l:List Ft) (j:Nat),aKc ops k f j l=true→∀ i g,l[i]? = some g→aSk f g=true∨sL ops 5 k (j+i)=true
 | [],_,_,i,g,h=>by simp at h
 | x::l,j,h,i,g,hi=>by
  unfold aKc at h
  rw [B7,wN] at h
  cases i with
  | zero=>simp at hi;subst hi;exact h.1
  | succ i =>
   have:=aAt l (j+1) h.2 i g (by simpa using hi)
   rwa [show j+1+i=j+(i+1) by omega] at this
theorem oD{ops:Array Oper}:∀ (l:List Ft) (k:Nat),aKd ops k l=true→∀ i j f g,i<j→l[i]? = some f→l[j]? = some g→aSk f g=true∨sL ops 5 (k+i) (k+j)=true
 | [],_,_,i,j,f,g,_,h,_=>by simp at h
 | x::l,k,h,i,j,f,g,hij,hi,hj=>by
  unfold aKd at h
  rw [B7] at h
  cases j with
  | zero=>omega
  | succ j =>
   cases i with
   | zero =>
    simp at hi;subst hi
    have:=aAt l (k+1) h.1 j g (by simpa using hj)
    rwa [show k+1+j=k+(j+1) by omega] at this
   | succ i =>
    have:=oD l (k+1) h.2 i j f g (by omega) (by simpa using hi) (by simpa using hj)
    rwa [show k+1+i=k+(i+1) by omega,show k+1+j=k+(j+1) by omega] at this

theorem qD.sound(hT:∀ t i,T t=some i→cN P t=some i)(hE:mR P E){ops:List Oper}{base:Nat}{out:Nat→xK}{fin:St}{ro:Option Nat}{n:Nat}{Q:Exit→Act→World→Prop}(hQ:∀ a' w',Sim P C0 M0 w0 fin a' w'→Q .normal a' w') :
  ∀ (fuel:Nat) (listed:Array Bool) (st:St) (a:Act) (w:World),qD P T E ops base out fin fuel listed st→Sim P C0 M0 w0 st a w→wpAnyIn (Fen ro) n P .any ops.toArray Q fuel listed a w
 | 0,listed,st,a,w,h,hs=>⟨h.1,hQ _ _ (h.2 ▸ hs)⟩
 | fuel+1,listed,st,a,w,h,hs=>by
  refine ⟨fun h0=>hQ _ _ (h.1 h0 ▸ hs),fun j hj => ?_⟩
  obtain ⟨o,ho,hst,hr⟩:=h.2 j hj;have:=hst.op hT hE C0 M0 w0 a w hs ro n (wpAnyIn (Fen ro) n P .any ops.toArray Q fuel (listed.setIfInBounds j true)) Q (fun a' w' Cl=>qD.sound hT hE hQ fuel _ _ _ _ hr Cl)
  unfold wpOpIn;simp only [List.getElem?_toArray,ho];exact this
end
section
variable {P:Program} {T:TT} {E:Env} {C C0:Cx} {M M0:Mem} {w w0:World}

mutual
def fzA(id n:Nat)(cs:List PV):AV→AV
 | .own i=>match Nat.beq i id with
  | true => .p (.sl n cs)
  | false => .own i
 | .arr i off k=>match Nat.beq i id with
  | true => .p (.sl k ((cs.drop off).take (k*(cs.length / n))))
  | false => .arr i off k
 | .ptr i off=>match Nat.beq i id with
  | true => .rp cs off
  | false => .ptr i off
 | .agg l=>kT (fzL id n cs l)
 | .tup l => .tup (fzL id n cs l)
 | .fn f a b => .fn f (fzL id n cs a) (fzL id n cs b)
 | .p x => .p x
 | .rp cs o => .rp cs o
 | .yld l => .yld l
 | .kb b => .kb b
 | .mp i => .mp i
 | .pa i q => .pa i q
 | .any => .any
def fzL(id n:Nat)(cs:List PV):List AV→List AV
 | []=>[]
 | x::r=>fzA id n cs x::fzL id n cs r
end

theorem xI(id n:Nat)(cs:List PV):∀ l:List AV,(fzL id n cs l).length=l.length
 | []=>by simp [fzL]
 | x::r=>by simp [fzL,xI id n cs r]

section
variable {id ty n:Nat} {cs:List PV} (hM:aT P C M w) (ho:M[id]? = some (some (.row ty n cs)))
include hM ho
mutual
theorem aHp:∀ {x:AV} {u:Value},Rep C M w x u→Rep (C.close id true) (bA M id (some .dead)) w (fzA id n cs x) u
 | .own i,u,h=>by
  have hL:=hM.le (dE true ho rfl);simp only [fzA]
  split
  ·rename_i hb
   have:=Nat.eq_of_beq_eq_true hb;subst this;exact .p _ _ (wJ hM ho h)
  ·exact h.mono hL
 | .arr i off k,u,h=>by
  have hL:=hM.le (dE true ho rfl);simp only [fzA]
  split
  ·rename_i hb
   have:=Nat.eq_of_beq_eq_true hb;subst this;cases h with
   | arr _ _ _ u h0 ha hrow =>
    rcases hrow _ ho rfl with ⟨rfl,p,cap,rfl,hc⟩ | ⟨b,cap,rfl,hn,hc,hb⟩
    ·rw [Nat.zero_mul,List.take_zero]
     exact .p _ _ (.sl 0 [] p cap (fun _=>undef) (Nat.zero_le _) hc (fun i h=>by simp at h) (fun i h=>by simp at h) (fun i h=>by simp at h))
    ·rcases hM.row _ _ _ _ ho with ⟨Fe,_⟩ | ⟨b',arr,inf,A1,q1,q2,q3,q4,q5,q6,q7,q8⟩
     ·rw [hb] at Fe;cases Fe
     ·rw [hb] at A1;cases A1
      have hle:cs.length≤arr.size:=by rw [q3,q4];exact Nat.mul_le_mul_right _ q5
      have hlt:∀ i,i<((cs.drop off).take (k*(cs.length / n))).length→off+i<cs.length:=fun i hi=>by simp at hi;omega
      refine .p _ _ (.sl k _ _ cap (fun j=>arr.getD (off+j) undef) hn hc (fun j hj=>⟨b,off,rfl,.inr ⟨rfl,hb⟩,cA q1 (by have:=hlt j hj;omega)⟩) (fun j hj => ?_) (fun j hj=>q8 _ (hlt j hj)))
      simp only [List.getElem_take,List.getElem_drop];exact (q7 _ (hlt j hj)).mono (fun _ h => .inl h) (fun _ _=>rfl)
  ·exact h.mono hL
 | .ptr i off,u,h=>by
  have hL:=hM.le (dE true ho rfl);simp only [fzA]
  split
  ·rename_i hb
   have:=Nat.eq_of_beq_eq_true hb;subst this;obtain ⟨b,rfl,hb⟩:=iI h (jV ho rfl)
   rcases hM.row _ _ _ _ ho with ⟨hn,_⟩ | ⟨b',arr,inf,A1,q1,q2,q3,q4,q5,q6,q7,q8⟩
   ·rw [hb] at hn;cases hn
   ·rw [hb] at A1;cases A1
    have hle:cs.length≤arr.size:=by rw [q3,q4];exact Nat.mul_le_mul_right _ q5
    have:=Rep.rp (C:=C.close i true) (M:=bA M i (some .dead)) (w:=w) cs off b 0 (fun j=>arr.getD j undef) (fun i hi=>⟨.inr ⟨rfl,hb⟩,by rw [gU];exact cA q1 (by omega)⟩) (fun i hi=>(q7 i hi).mono (fun _ h => .inl h) (fun _ _=>rfl)) q8
    rwa [gU] at this
  ·exact h.mono hL
 | .agg l,u,h=>by
  cases h with
  | agg _ vs h0 h1 h2 =>
   simp only [fzA];obtain ⟨q1,q2⟩:=lI (us:=fun i=>vs.getD i undef) h2
   exact lY (fun i hi=>h0 i (by omega)) (by omega) q2
 | .tup l,u,h=>by
  cases h with
  | tup _ vs h1 h2 =>
   simp only [fzA];obtain ⟨q1,q2⟩:=lI (us:=fun i=>vs.getD i undef) h2
   exact .tup _ _ (by omega) q2
 | .fn f a b,u,h=>by
  cases h with
  | fn _ _ _ us vs h1 h2 h3 h4 =>
   simp only [fzA];obtain ⟨q1,q2⟩:=lI (us:=fun i=>us.getD i undef) h3
   obtain ⟨r1,r2⟩:=lI (us:=fun i=>vs.getD i undef) h4
   exact .fn f _ _ us vs (by omega) (by omega) q2 r2
 | .p x,u,h=>by simp only [fzA];exact h.mono (hM.le (dE true ho rfl))
 | .rp cs o,u,h=>by simp only [fzA];exact h.mono (hM.le (dE true ho rfl))
 | .yld l,u,h=>by simp only [fzA];exact h.mono (hM.le (dE true ho rfl))
 | .kb b,u,h=>by simp only [fzA];exact h.mono (hM.le (dE true ho rfl))
 | .mp i,u,h=>by simp only [fzA];exact h.mono (hM.le (dE true ho rfl))
 | .pa i q,u,h=>by simp only [fzA];exact h.mono (hM.le (dE true ho rfl))
 | .any,u,h=>by simp only [fzA];exact .any _
theorem lI:∀ {l:List AV} {us:Nat→Value},(∀ i (h:i<l.length),Rep C M w l[i] (us i))→(fzL id n cs l).length=l.length∧∀ i (h:i<(fzL id n cs l).length),Rep (C.close id true) (bA M id (some .dead)) w (fzL id n cs l)[i] (us i)
 | [],_,_=>⟨xI ..,  fun i h=>by simp [fzL] at h⟩
 | x::r,us,h=>by
  refine ⟨xI ..,fun i hi => ?_⟩
  have:=hM;have:=ho;obtain ⟨_,q2⟩:=lI (l:=r) (us:=fun i=>us (i+1)) (fun i hi=>h (i+1) (by simpa using hi))
  have e:fzL id n cs (x::r)=fzA id n cs x::fzL id n cs r:=by simp only [fzL]
  simp only [e];cases i with
  | zero=>exact aHp (h 0 (by simp))
  | succ i=>exact q2 i (by simpa [xI] using hi)
end
end

def fzO(id n:Nat)(cs:List PV):Option AO→Option AO
 | some (.box ty l)=>some (.box ty (fzL id n cs l))
 | x=>x
def Rs(id:Nat)(st:St):Option St:=match gC st.m id with
 | some r=>some ⟨fzL id r.2.1 r.2.2 st.t,(bA st.m id (some .dead)).map (fzO id r.2.1 r.2.2)⟩
 | none=>none

theorem kN{id n:Nat}{cs:List PV}{m:Mem}{j:Nat}{o':AO}(h:(m.map (fzO id n cs))[j]? = some (some o')):∃ o,m[j]? = some (some o)∧fzO id n cs (some o)=some o':=by
 rw [fR] at h
 cases hm:m[j]? with
 | none=>rw [hm] at h;cases h
 | some x =>
  rw [hm] at h
  cases x with
  | none=>simp [fzO] at h
  | some o=>exact ⟨o,rfl,by simpa using h⟩
theorem aYp{id n:Nat}{cs:List PV}{o:AO}{ty k:Nat}{ds:List PV}(h:fzO id n cs (some o)=some (.row ty k ds)):o = .row ty k ds:=by cases o <;> simp [fzO] at h ⊢;exact h
theorem qB{id n:Nat}{cs:List PV}{o o':AO}(h:fzO id n cs (some o)=some o'):o'.live=o.live:=by cases o <;> (simp [fzO] at h;subst h;rfl)

theorem bBv{id:Nat}{st Am:St}{a:Act}(hf:Rs id st=some Am)(hs:Sim P C0 M0 w0 st a w):Sim P C0 M0 w0 Am a w:=by
 obtain ⟨C,hS,hM,hF,hD⟩:=hs;unfold Rs at hf
 split at hf
 ·rename_i r hr
  cases hf;have ho:=dI hr;have hk:=dE (C:=C) (w:=w) true ho rfl;have hm:=qH hM true ho rfl;have hL:Le (C.close id true) (C.close id true) (bA st.m id (some .dead)) ((bA st.m id (some .dead)).map (fzO id r.2.1 r.2.2)) w w:=by
   refine ⟨fun i o h => ?_,fun i o h ty n cs hm => ?_,fun i o h o' hm hl => ?_,fun _ h=>h,fun _ _=>rfl⟩
   ·rw [fR,h]
    cases o <;> exact ⟨_,rfl⟩
   ·obtain ⟨o2,h2,h3⟩:=kN hm
    rw [aYp h3] at h2
    exact ⟨_,h2⟩
   ·obtain ⟨o2,h2,h3⟩:=kN hm
    rw [h] at h2;cases h2
    exact ⟨by rw [← qB h3];exact hl,rfl,rfl⟩
  have Ms:Fr (C.close id true) (bA st.m id (some .dead)) w (C.close id true) ((bA st.m id (some .dead)).map (fzO id r.2.1 r.2.2)) w:=by
   refine ⟨rfl,rfl,rfl,dG _,fun _ _ _=>rfl,fun i o h=>⟨hL.ids i o h,rfl,rfl⟩,hL.row,fun i o h o' hm hl=>(hL.liv i o h o' hm hl).1,fun i o b h hl hb => ?_,fun _ h=>h,fun _ h => .inl h⟩
   obtain ⟨o2,h2,h3⟩:=kN h;exact .inr ⟨i,o2,h2,by rw [← qB h3];exact hl,hb⟩
  refine ⟨C.close id true,⟨?_,fun i hi => ?_⟩,⟨fun i ty n cs h => ?_,fun i ty cs h => ?_,fun i es cl h => ?_,fun i i' o1 o2 b h1 l1 h2 l2 => ?_,fun i o b h hl => ?_,hm.Fs,fun i o b h hl => ?_⟩,(hF.trans hk).trans Ms,(hD.fr hM (gF rfl) hk).fr hm (fun i to ti sz L q=>by
   obtain ⟨o2,h2,h3⟩:=kN q;cases o2 with
   | pk=>simp only [fzO,Option.some.injEq] at h3;rw [← h3];exact h2
   | _=>simp [fzO] at h3) Ms⟩
  ·rw [xI];exact hS.size
  ·exact ((lI hM ho hS.rep).2 i hi).mono hL
  ·obtain ⟨o2,h2,h3⟩:=kN h
   rw [aYp h3] at h2
   exact hm.row _ _ _ _ h2
  ·obtain ⟨o2,h2,h3⟩:=kN h
   cases o2 with
   | box Dh l =>
    simp only [fzO,Option.some.injEq,AO.box.injEq] at h3
    obtain ⟨rfl,rfl⟩:=h3;have hne:i≠id:=fun e=>by
     subst e;rw [aZ] at h2;cases h2
    obtain ⟨b,arr,q0,q1,q2,q3,q4⟩:=hM.box _ _ _ ((aS st.m id i _ _ (Ne.symm hne)).1 h2);obtain ⟨r1,r2⟩:=lI hM ho (us:=fun j=>arr.getD j undef) q3
    exact ⟨b,arr,q0,q1,by rw [r1];exact q2,fun j hj=>(r2 j hj).mono hL,fun j hj=>q4 j (by rw [r1] at hj;exact hj)⟩
   | row=>simp [fzO] at h3
   | mp=>simp [fzO] at h3
   | pk=>simp [fzO] at h3
   | dead=>simp [fzO] at h3
  ·obtain ⟨o2,h2,h3⟩:=kN h
   have:o2 = .mp es cl:=by cases o2 <;> simp [fzO] at h3 ⊢;exact h3
   subst this;obtain ⟨b,arr,q0,q1,q2,q3⟩:=hm.mp _ _ _ h2;refine ⟨b,arr,q0,q1,q2,fun j hj => ?_⟩
   obtain ⟨en,r1,r2,r3,r4⟩:=q3 j hj;exact ⟨en,r1,r2,r3,r4.mono hL.F hL.fz⟩
  ·obtain ⟨o3,h3,h4⟩:=kN h1
   obtain ⟨o5,h5,h6⟩:=kN h2;exact hm.inj i i' o3 o5 b h3 (by rw [← qB h4];exact l1) h5 (by rw [← qB h6];exact l2)
  ·obtain ⟨o3,h3,h4⟩:=kN h
   exact hm.nF i o3 b h3 (by rw [← qB h4];exact hl)
  ·obtain ⟨o3,h3,h4⟩:=kN h
   exact hm.lt i o3 b h3 (by rw [← qB h4];exact hl)
 ·cases hf

def forget:List Nat→List AV→List AV
 | [],l=>l
 | i::r,l=>forget r (l.set i .any)
theorem xJ:∀ (g:List Nat) {ts:List AV} {us:Array Value},eI C M w ts us→eI C M w (forget g ts) us
 | [],_,_,h=>h
 | i::r,ts,us,h=>by
  refine xJ r ⟨by simpa using h.size,fun j hj => ?_⟩
  simp only [nZ] at hj
  rw [zN]
  split
  ·exact .any _
  ·exact h.rep j hj
theorem aKb(g:List Nat){st:St}{a:Act}(hs:Sim P C0 M0 w0 st a w):Sim P C0 M0 w0 ⟨forget g st.t,st.m⟩ a w:=by
 obtain ⟨C,hS,hM,hF,hD⟩:=hs;exact ⟨C,xJ g hS,hM,hF,hD⟩
end
section
variable {P:Program} {T:TT} {E:Env} {C C0:Cx} {M M0:Mem} {w w0:World}

def Cx.shut(C:Cx)(id:Nat):Cx:={ ι:=C.ι,κ:=C.κ,F:=fun b=>C.F b∨aTa (C.κ id) b }
section
variable {id to ti sz:Nat} {L:List (Nat × List PV)}
variable (q:aTb C M w id to ti sz L) (ho:M[id]? = some (some (.pk to ti sz L))) (hL:Le C (C.shut id) M (bA M id (some .dead)) w w)
include q ho hL
end

def fzP(id:Nat)(st:St):Option St:=none
theorem bBt{id:Nat}{st Am:St}{a:Act}(h:fzP id st=some Am)(hs:Sim P C0 M0 w0 st a w):Sim P C0 M0 w0 Am a w:=by
 unfold fzP at h
 cases h
def nlP(i to ti sz:Nat)(st:St):Option St:=none
theorem bBu{i to ti sz:Nat}{st Am:St}{a:Act}(h:nlP i to ti sz st=some Am)(hs:Sim P C0 M0 w0 st a w):Sim P C0 M0 w0 Am a w:=by
 unfold nlP at h
 cases h
end
section
variable {P:Program} {T:TT} {E:Env} {C C0:Cx} {M M0:Mem} {w w0:World}

inductive Cz where
 | bx (cs:List PV)
 | mp (es:List (Value × PV))
mutual
def czA(id:Nat)(y:Cz):AV→AV
 | .ptr i off=>match Nat.beq i id with
  | true=>match y with
   | .bx cs => .rp cs off
   | .mp _ => .ptr i off
  | false => .ptr i off
 | .mp i=>match Nat.beq i id with
  | true=>match y with
   | .mp es => .p (.mp es)
   | .bx _ => .mp i
  | false => .mp i
 | .agg l=>kT (czL id y l)
 | .tup l => .tup (czL id y l)
 | .fn f a b => .fn f (czL id y a) (czL id y b)
 | .own i => .own i
 | .arr i off k => .arr i off k
 | .p x => .p x
 | .rp cs o => .rp cs o
 | .yld l => .yld l
 | .kb b => .kb b
 | .pa i q => .pa i q
 | .any => .any
def czL(id:Nat)(y:Cz):List AV→List AV
 | []=>[]
 | x::r=>czA id y x::czL id y r
end
theorem xH(id:Nat)(y:Cz):∀ l:List AV,(czL id y l).length=l.length
 | []=>rfl
 | x::r=>by simp only [czL,nX,xH id y r]

def Kw:AV→Option PV
 | .p x=>some x
 | .kb b=>some (.v (.bool b))
 | .rp cs off=>some (.rp cs off)
 | _=>none
def bBq:List AV→Option (List PV)
 | []=>some []
 | x::r=>match Kw x with
  | some y=>match bBq r with
   | some l=>some (y::l)
   | none=>none
  | none=>none
theorem aYn:∀ {l:List AV} {cs:List PV},bBq l=some cs→cs.length=l.length∧∀ (i:Nat) (h:i<l.length) (h':i<cs.length),Kw l[i]=some cs[i]
 | [],cs,h=>by cases h;exact ⟨rfl,fun i h=>by simp at h⟩
 | x::r,cs,h=>by
  unfold bBq at h
  split at h
  ·rename_i y hy
   split at h
   ·rename_i k hk
    cases h;obtain ⟨q1,q2⟩:=aYn hk;refine ⟨by simp [q1],fun i h1 h2 => ?_⟩
    cases i with
    | zero=>exact hy
    | succ i=>exact q2 i (by simpa using h1) (by simpa using h2)
   ·cases h
  ·cases h
theorem bNh{x:AV}{y:PV}{u:Value}(e:Kw x=some y)(h:Rep C M w x u):cM C.F w y u:=by
 cases x <;> simp [Kw] at e
 ·subst e;cases h;assumption
 ·subst e;cases h;exact .rp _ _ _ _ _ ‹_› ‹_› ‹_›
 ·subst e;cases h;exact .v _
def bTs(y:Cz)(o:AO):Prop:=match y with
 | .bx cs=>∃ ty l,o = .box ty l∧bBq l=some cs
 | .mp es=>∃ cl,o = .mp es cl
theorem bTs.live{y:Cz}{o:AO}(h:bTs y o):o.live=true:=by
 cases y with
 | bx cs=>obtain ⟨ty,l,rfl,_⟩:=h;rfl
 | mp es=>obtain ⟨cl,rfl⟩:=h;rfl

section
variable {id:Nat} {y:Cz} {o:AO} (hM:aT P C M w) (ho:M[id]? = some (some o)) (hz:bTs y o)
include hM ho hz
mutual
theorem bBr:∀ {x:AV} {u:Value},Rep C M w x u→Rep (C.close id true) (bA M id (some .dead)) w (czA id y x) u
 | .ptr i off,u,h=>by
  have hL:=hM.le (dE true ho hz.live);simp only [czA]
  split
  ·rename_i hb
   have:=Nat.eq_of_beq_eq_true hb;subst this;cases y with
   | mp es=>exact h.mono hL
   | bx cs =>
    obtain ⟨ty,l,rfl,hl⟩:=hz;obtain ⟨b,rfl,hb⟩:=iI h (jV ho rfl);obtain ⟨b',arr,A1,q1,q2,q3,q4⟩:=hM.box _ _ _ ho;rw [hb] at A1;cases A1
    obtain ⟨r1,r2⟩:=aYn hl;have:=Rep.rp (C:=C.close i true) (M:=bA M i (some .dead)) (w:=w) cs off b 0 (fun j=>arr.getD j undef) (fun i hi=>⟨.inr ⟨rfl,hb⟩,by rw [gU];exact cA q1 (by omega)⟩)
     (fun i hi=>(bNh (r2 i (by omega) hi) (q3 i (by omega))).mono (fun _ h => .inl h) (fun _ _=>rfl)) (fun i hi=>q4 i (by omega))
    rwa [gU] at this
  ·exact h.mono hL
 | .mp i,u,h=>by
  have hL:=hM.le (dE true ho hz.live);simp only [czA]
  split
  ·rename_i hb
   have:=Nat.eq_of_beq_eq_true hb;subst this;cases y with
   | bx cs=>exact h.mono hL
   | mp es =>
    obtain ⟨cl,rfl⟩:=hz;obtain ⟨b,arr,rfl,hb,q1,q2,q3⟩:=aKm hM h (bH.2 ho);refine .p _ _ (.mp es b cl arr (fun j=>(arr.getD j ⟨undef,undef,0⟩).val) (.inr ⟨rfl,hb⟩) q1 q2 (fun j hj => ?_) fun j hj => ?_)
    ·obtain ⟨e,r1,r2,r3,r4⟩:=q3 j hj
     exact ⟨e,r1,r2,r3,by rw [B4,r1];rfl⟩
    ·obtain ⟨e,r1,r2,r3,r4⟩:=q3 j hj
     rw [B4,r1];exact r4.mono (fun _ h => .inl h) (fun _ _=>rfl)
  ·exact h.mono hL
 | .agg l,u,h=>by
  cases h with
  | agg _ vs h0 h1 h2 =>
   simp only [czA];obtain ⟨q1,q2⟩:=lH (us:=fun i=>vs.getD i undef) h2
   exact lY (fun i hi=>h0 i (by omega)) (by omega) q2
 | .tup l,u,h=>by
  cases h with
  | tup _ vs h1 h2 =>
   simp only [czA];obtain ⟨q1,q2⟩:=lH (us:=fun i=>vs.getD i undef) h2
   exact .tup _ _ (by omega) q2
 | .fn f a b,u,h=>by
  cases h with
  | fn _ _ _ us vs h1 h2 h3 h4 =>
   simp only [czA];obtain ⟨q1,q2⟩:=lH (us:=fun i=>us.getD i undef) h3
   obtain ⟨r1,r2⟩:=lH (us:=fun i=>vs.getD i undef) h4
   exact .fn f _ _ us vs (by omega) (by omega) q2 r2
 | .own i,u,h=>by simp only [czA];exact h.mono (hM.le (dE true ho hz.live))
 | .arr i off k,u,h=>by simp only [czA];exact h.mono (hM.le (dE true ho hz.live))
 | .p x,u,h=>by simp only [czA];exact h.mono (hM.le (dE true ho hz.live))
 | .rp cs o,u,h=>by simp only [czA];exact h.mono (hM.le (dE true ho hz.live))
 | .yld l,u,h=>by simp only [czA];exact h.mono (hM.le (dE true ho hz.live))
 | .kb b,u,h=>by simp only [czA];exact h.mono (hM.le (dE true ho hz.live))
 | .pa i q,u,h=>by simp only [czA];exact h.mono (hM.le (dE true ho hz.live))
 | .any,u,h=>by simp only [czA];exact .any _
theorem lH:∀ {l:List AV} {us:Nat→Value},(∀ i (h:i<l.length),Rep C M w l[i] (us i))→(czL id y l).length=l.length∧∀ i (h:i<(czL id y l).length),Rep (C.close id true) (bA M id (some .dead)) w (czL id y l)[i] (us i)
 | [],_,_=>by
  have:=hM;have:=ho;have:=hz;exact ⟨xH ..,fun i h=>by simp [czL] at h⟩
 | x::r,us,h=>by
  refine ⟨xH ..,fun i hi => ?_⟩
  obtain ⟨_,q2⟩:=lH (l:=r) (us:=fun i=>us (i+1)) (fun i hi=>h (i+1) (by simpa using hi))
  have e:czL id y (x::r)=czA id y x::czL id y r:=by simp only [czL]
  simp only [e];cases i with
  | zero=>exact bBr (h 0 (by simp))
  | succ i=>exact q2 i (by simpa [xH] using hi)
end
end

def czO(id:Nat)(y:Cz):Option AO→Option AO
 | some (.box ty l)=>some (.box ty (czL id y l))
 | x=>x
def cAi(m:Mem)(id:Nat):Option Cz:=match bY m id with
 | some (.box _ l)=>(bBq l).map .bx
 | some (.mp es _)=>some (.mp es)
 | _=>none
def fzM(id:Nat)(st:St):Option St:=match cAi st.m id with
 | some y=>some ⟨czL id y st.t,(bA st.m id (some .dead)).map (czO id y)⟩
 | none=>none
theorem bNi{m:Mem}{id:Nat}{y:Cz}(h:cAi m id=some y):∃ o,m[id]? = some (some o)∧bTs y o:=by
 unfold cAi at h
 split at h
 ·rename_i ty l ho
  cases hl:bBq l with
  | none=>rw [hl] at h;cases h
  | some cs=>rw [hl] at h;cases h;exact ⟨_,bH.1 ho,ty,l,rfl,hl⟩
 ·rename_i es cl ho
  cases h;exact ⟨_,bH.1 ho,cl,rfl⟩
 ·cases h
theorem kM{id:Nat}{y:Cz}{m:Mem}{j:Nat}{o':AO}(h:(m.map (czO id y))[j]? = some (some o')):∃ o,m[j]? = some (some o)∧czO id y (some o)=some o':=by
 rw [fR] at h
 cases hm:m[j]? with
 | none=>rw [hm] at h;cases h
 | some x =>
  rw [hm] at h
  cases x with
  | none=>simp [czO] at h
  | some o=>exact ⟨o,rfl,by simpa using h⟩
theorem aYo{id:Nat}{y:Cz}{o:AO}{ty k:Nat}{ds:List PV}(h:czO id y (some o)=some (.row ty k ds)):o = .row ty k ds:=by cases o <;> simp [czO] at h ⊢;exact h
theorem qA{id:Nat}{y:Cz}{o o':AO}(h:czO id y (some o)=some o'):o'.live=o.live:=by cases o <;> (simp [czO] at h;subst h;rfl)

theorem bBs{id:Nat}{st Am:St}{a:Act}(hf:fzM id st=some Am)(hs:Sim P C0 M0 w0 st a w):Sim P C0 M0 w0 Am a w:=by
 obtain ⟨C,hS,hM,hF,hD⟩:=hs;unfold fzM at hf
 split at hf
 ·rename_i y hr
  cases hf;obtain ⟨o,ho,hz⟩:=bNi hr;have hk:=dE (C:=C) (w:=w) true ho hz.live;have hm:=qH hM true ho hz.live;have hL:Le (C.close id true) (C.close id true) (bA st.m id (some .dead)) ((bA st.m id (some .dead)).map (czO id y)) w w:=by
   refine ⟨fun i o h => ?_,fun i o h ty n cs hm => ?_,fun i o h o' hm hl => ?_,fun _ h=>h,fun _ _=>rfl⟩
   ·rw [fR,h]
    cases o <;> exact ⟨_,rfl⟩
   ·obtain ⟨o2,h2,h3⟩:=kM hm
    rw [aYo h3] at h2
    exact ⟨_,h2⟩
   ·obtain ⟨o2,h2,h3⟩:=kM hm
    rw [h] at h2;cases h2
    exact ⟨by rw [← qA h3];exact hl,rfl,rfl⟩
  have Ms:Fr (C.close id true) (bA st.m id (some .dead)) w (C.close id true) ((bA st.m id (some .dead)).map (czO id y)) w:=by
   refine ⟨rfl,rfl,rfl,dG _,fun _ _ _=>rfl,fun i o h=>⟨hL.ids i o h,rfl,rfl⟩,hL.row,fun i o h o' hm hl=>(hL.liv i o h o' hm hl).1,fun i o b h hl hb => ?_,fun _ h=>h,fun _ h => .inl h⟩
   obtain ⟨o2,h2,h3⟩:=kM h;exact .inr ⟨i,o2,h2,by rw [← qA h3];exact hl,hb⟩
  refine ⟨C.close id true,⟨?_,fun i hi => ?_⟩,⟨fun i ty n cs h => ?_,fun i ty cs h => ?_,fun i es cl h => ?_,fun i i' o1 o2 b h1 l1 h2 l2 => ?_,fun i o b h hl => ?_,hm.Fs,fun i o b h hl => ?_⟩,(hF.trans hk).trans Ms,(hD.fr hM (gF rfl) hk).fr hm (fun i to ti sz L q=>by
   obtain ⟨o2,h2,h3⟩:=kM q;cases o2 with
   | pk=>simp only [czO,Option.some.injEq] at h3;rw [← h3];exact h2
   | _=>simp [czO] at h3) Ms⟩
  ·rw [xH];exact hS.size
  ·exact ((lH hM ho hz hS.rep).2 i hi).mono hL
  ·obtain ⟨o2,h2,h3⟩:=kM h
   rw [aYo h3] at h2
   exact hm.row _ _ _ _ h2
  ·obtain ⟨o2,h2,h3⟩:=kM h
   cases o2 with
   | box Dh l =>
    simp only [czO,Option.some.injEq,AO.box.injEq] at h3
    obtain ⟨rfl,rfl⟩:=h3;have hne:i≠id:=fun e=>by
     subst e;rw [aZ] at h2;cases h2
    obtain ⟨b,arr,q0,q1,q2,q3,q4⟩:=hM.box _ _ _ ((aS st.m id i _ _ (Ne.symm hne)).1 h2);obtain ⟨r1,r2⟩:=lH hM ho hz (us:=fun j=>arr.getD j undef) q3
    exact ⟨b,arr,q0,q1,by rw [r1];exact q2,fun j hj=>(r2 j hj).mono hL,fun j hj=>q4 j (by rw [r1] at hj;exact hj)⟩
   | row=>simp [czO] at h3
   | mp=>simp [czO] at h3
   | pk=>simp [czO] at h3
   | dead=>simp [czO] at h3
  ·obtain ⟨o2,h2,h3⟩:=kM h
   have:o2 = .mp es cl:=by cases o2 <;> simp [czO] at h3 ⊢;exact h3
   subst this;obtain ⟨b,arr,q0,q1,q2,q3⟩:=hm.mp _ _ _ h2;refine ⟨b,arr,q0,q1,q2,fun j hj => ?_⟩
   obtain ⟨en,r1,r2,r3,r4⟩:=q3 j hj;exact ⟨en,r1,r2,r3,r4.mono hL.F hL.fz⟩
  ·obtain ⟨o3,h3,h4⟩:=kM h1
   obtain ⟨o5,h5,h6⟩:=kM h2;exact hm.inj i i' o3 o5 b h3 (by rw [← qA h4];exact l1) h5 (by rw [← qA h6];exact l2)
  ·obtain ⟨o3,h3,h4⟩:=kM h
   exact hm.nF i o3 b h3 (by rw [← qA h4];exact hl)
  ·obtain ⟨o3,h3,h4⟩:=kM h
   exact hm.lt i o3 b h3 (by rw [← qA h4];exact hl)
 ·cases hf
end
section
variable {P:Program} {T:TT} {E:Env} {C C0:Cx} {M M0:Mem} {w w0:World}

def idx:List Nat→Nat→Nat→Option Nat
 | [],_,_=>none
 | j::r,i,n=>match Nat.beq j i with
  | true=>some n
  | false=>idx r i (n+1)
def rnI(k:Nat)(ids:List Nat)(i:Nat):Option Nat:=match Nat.blt i k with
 | true=>some i
 | false=>idx ids i k
mutual
def mpA(f:Nat→Option Nat):AV→Option AV
 | .own i=>(f i).map .own
 | .arr i off n=>(f i).map fun j => .arr j off n
 | .ptr i off=>(f i).map fun j => .ptr j off
 | .mp i=>(f i).map .mp
 | .pa i q=>(f i).map fun j => .pa j q
 | .agg l=>(mpL f l).map .agg
 | .tup l=>(mpL f l).map .tup
 | .fn g a b=>match mpL f a with
  | some a'=>(mpL f b).map fun b' => .fn g a' b'
  | none=>none
 | .p x=>some (.p x)
 | .rp cs o=>some (.rp cs o)
 | .yld l=>some (.yld l)
 | .kb b=>some (.kb b)
 | .any=>some .any
def mpL(f:Nat→Option Nat):List AV→Option (List AV)
 | []=>some []
 | x::r=>match mpA f x with
  | some y=>(mpL f r).map (y :: ·)
  | none=>none
end
def mpO(f:Nat→Option Nat):AO→Option AO
 | .row ty n cs=>some (.row ty n cs)
 | .box ty l=>(mpL f l).map (.box ty ·)
 | .mp es cl=>some (.mp es cl)
 | .pk to ti sz L=>some (.pk to ti sz L)
 | .dead=>some .dead
def mpM(f:Nat→Option Nat):Mem→Option Mem
 | []=>some []
 | none::r=>(mpM f r).map (none :: ·)
 | some o::r=>match mpO f o with
  | some o'=>(mpM f r).map (some o' :: ·)
  | none=>none
abbrev rnL(k:Nat)(ids:List Nat):=mpL (rnI k ids)
abbrev rnM(k:Nat)(ids:List Nat):=mpM (rnI k ids)
def at?(m:Mem)(i:Nat):Option AO:=bY m i
def distinct(k:Nat):List Nat→Bool
 | []=>true
 | i::r=>match Nat.ble k i with
  | true=>match r.all (fun j => !Nat.beq j i) with
   | true=>distinct k r
   | false=>false
  | false=>false
def firsts(m:Mem):Nat→Nat→Mem
 | 0,_=>[]
 | k+1,i=>at? m i::firsts m k (i+1)
def pick(k:Nat)(ids:List Nat)(st:St):Option St:=match distinct k ids with
 | true=>match rnL k ids st.t with
  | some t=>(rnM k ids (firsts st.m k 0++ids.map (at? st.m))).map (⟨t,·⟩)
  | none=>none
 | false=>none

theorem xG:∀ (ids:List Nat) (i n j:Nat),idx ids i n=some j→n≤j∧ids[j-n]? = some i
 | [],i,n,j,h=>by cases h
 | a::r,i,n,j,h=>by
  unfold idx at h
  split at h
  ·rename_i hb
   cases h;exact ⟨dG _,by rw [aTt];simp [Nat.eq_of_beq_eq_true hb]⟩
  ·obtain ⟨h1,h2⟩:=xG r i (n+1) j h
   refine ⟨by omega,?_⟩
   rw [show j-n=(j-(n+1))+1 by omega]
   simpa using h2
theorem jM{k:Nat}:∀ {ids:List Nat},distinct k ids=true→(∀ i∈ids,k≤i)∧ids.Nodup
 | [],_=>⟨by simp,.nil⟩
 | a::r,h=>by
  unfold distinct at h
  split at h
  ·rename_i h1
   split at h
   ·rename_i h2
    obtain ⟨h3,h4⟩:=jM h;refine ⟨fun i hi => ?_,?_⟩
    ·rcases fU.1 hi with rfl | hi
     ·exact Nat.le_of_ble_eq_true h1
     ·exact h3 i hi
    ·refine List.nodup_cons.2 ⟨fun hm => ?_,h4⟩
     have:=gJ.1 h2 a hm;simp at this
   ·cases h
  ·cases h
theorem aHn(m:Mem):∀ (k i j:Nat),j<k→(firsts m k i)[j]? = some (bY m (i+j))
 | 0,i,j,h=>by omega
 | k+1,i,j,h=>by
  unfold firsts;cases j with
  | zero=>simp [at?]
  | succ j =>
   have:=aHn m k (i+1) j (by omega)
   rw [List.getElem?_cons_succ,this,show i+1+j=i+(j+1) by omega]
theorem nL(m:Mem):∀ (k i:Nat),(firsts m k i).length=k
 | 0,_=>rfl
 | k+1,i=>by simp [firsts,nL m k]

def nW(k:Nat)(ids:List Nat)(j:Nat):Option Nat:=if j<k then some j else ids[j-k]?
theorem aKa{k:Nat}{ids:List Nat}{i j:Nat}(h:rnI k ids i=some j):nW k ids j=some i:=by
 unfold rnI at h
 split at h
 ·rename_i hb
  cases h;have:i<k:=by simpa [Nat.blt_eq] using hb
  simp [nW,this]
 ·obtain ⟨h1,h2⟩:=xG _ _ _ _ h
  simp [nW,Nat.not_lt.2 h1,h2]
theorem aYl{k:Nat}{ids:List Nat}(hd:distinct k ids=true){j j' i:Nat}(h:nW k ids j=some i)(h':nW k ids j'=some i):j=j':=by
 obtain ⟨h1,h2⟩:=jM hd;unfold nW at h h'
 split at h <;> split at h'
 ·cases h;cases h';rfl
 ·cases h
  have:=h1 _ (Bi h');omega
 ·cases h'
  have:=h1 _ (Bi h);omega
 ·obtain ⟨q1,q2⟩:=B3.1 h
  obtain ⟨q3,q4⟩:=B3.1 h';have hp:=List.pairwise_iff_getElem.1 h2
  rcases Nat.lt_trichotomy (j-k) (j'-k) with hl | hl | hl
  ·exact absurd (q2.trans q4.symm) (hp _ _ q1 q3 hl)
  ·omega
  ·exact absurd (q4.trans q2.symm) (hp _ _ q3 q1 hl)

def Cx.rn(C:Cx)(k:Nat)(ids:List Nat):Cx:={ ι:=fun j=>(nW k ids j).bind C.ι,κ:=fun j=>match nW k ids j with | some i=>C.κ i | none=>0,F:=C.F }

theorem aDb{f:Nat→Option Nat}:∀ {m m':Mem},mpM f m=some m'→m'.length=m.length∧(∀ (j:Nat) (o':AO),m'[j]? = some (some o')→∃ o,m[j]? = some (some o)∧mpO f o=some o')∧(∀ (j:Nat) (o:AO),m[j]? = some (some o)→∃ o',m'[j]? = some (some o')∧mpO f o=some o')
 | [],m',h=>by cases h;exact ⟨rfl,fun j o h=>by simp at h,fun j o h=>by simp at h⟩
 | none::r,m',h=>by
  unfold mpM at h
  cases hr:mpM f r with
  | none=>rw [hr] at h;cases h
  | some r' =>
   rw [hr] at h;cases h
   obtain ⟨h1,h2,h3⟩:=aDb hr;refine ⟨by simp [h1],fun j o hj => ?_,fun j o hj => ?_⟩
   ·cases j with
    | zero=>simp at hj
    | succ j=>exact h2 j o (by simpa using hj)
   ·cases j with
    | zero=>simp at hj
    | succ j=>exact h3 j o (by simpa using hj)
 | some o::r,m',h=>by
  unfold mpM at h
  split at h
  ·rename_i o' Dw
   cases hr:mpM f r with
   | none=>rw [hr] at h;cases h
   | some r' =>
    rw [hr] at h;cases h
    obtain ⟨h1,h2,h3⟩:=aDb hr;refine ⟨by simp [h1],fun j o hj => ?_,fun j o hj => ?_⟩
    ·cases j with
     | zero=>simp at hj;subst hj;exact ⟨_,rfl,Dw⟩
     | succ j=>exact h2 j o (by simpa using hj)
    ·cases j with
     | zero=>simp at hj;subst hj;exact ⟨_,rfl,Dw⟩
     | succ j=>exact h3 j o (by simpa using hj)
  ·cases h

theorem bQ{f:Nat→Option Nat}{o o':AO}(h:mpO f o=some o'):o'.live=o.live:=by
 cases o <;> simp only [mpO,lD,Option.some.injEq] at h
 ·subst h;rfl
 ·obtain ⟨_,_,rfl⟩:=h;rfl
 ·subst h;rfl
 ·subst h;rfl
 ·subst h;rfl
theorem lU{f:Nat→Option Nat}{o:AO}{ty n:Nat}{cs:List PV}(h:mpO f o=some (.row ty n cs)):o = .row ty n cs:=by
 cases o <;> simp only [mpO,lD,Option.some.injEq] at h
 ·exact h
 ·obtain ⟨_,_,h⟩:=h;cases h
 ·cases h
 ·cases h
 ·cases h
structure bBm (f:Nat→Option Nat) (C C':Cx) (M M':Mem):Prop where
 bk:∀ (i j:Nat) (o':AO),f i=some j→M'[j]? = some (some o')→∃ o,M[i]? = some (some o)∧mpO f o=some o'
 fw:∀ (i j:Nat) (o:AO),f i=some j→M[i]? = some (some o)→∃ o',M'[j]? = some (some o')∧mpO f o=some o'
 at_:∀ i j,f i=some j→C'.ι j=C.ι i∧C'.κ j=C.κ i
 F:∀ b,C.F b→C'.F b

section
variable {f:Nat→Option Nat} {C':Cx} {M':Mem} (hm:bBm f C C' M M')
include hm
set_option linter.unusedSectionVars false in
mutual
theorem uJ:∀ {x y:AV} {u:Value},Rep C M w x u→mpA f x=some y→Rep C' M' w y u
 | .own i,y,u,h,hr=>by
  simp only [mpA,lD] at hr
  obtain ⟨j,hj,rfl⟩:=hr;cases h with
  | own _ u h0 ha h =>
   obtain ⟨o,ho⟩:=ha;obtain ⟨o',Dw,_⟩:=hm.fw _ _ _ hj ho;refine .own j u h0 ⟨o',Dw⟩ fun ty n cs hx => ?_
   obtain ⟨o2,e2,e3⟩:=hm.bk _ _ _ hj hx;rw [lU e3] at e2
   rw [(hm.at_ _ _ hj).1,(hm.at_ _ _ hj).2];exact h _ _ _ e2
 | .arr i off n,y,u,h,hr=>by
  simp only [mpA,lD] at hr
  obtain ⟨j,hj,rfl⟩:=hr;cases h with
  | arr _ _ _ u h0 ha h =>
   obtain ⟨o,ho⟩:=ha;obtain ⟨o',Dw,_⟩:=hm.fw _ _ _ hj ho;refine .arr j off n u h0 ⟨o',Dw⟩ fun o3 hx hl => ?_
   obtain ⟨o2,e2,e3⟩:=hm.bk _ _ _ hj hx;rw [(hm.at_ _ _ hj).1];exact h _ e2 (by rw [← bQ e3];exact hl)
 | .ptr i off,y,u,h,hr=>by
  simp only [mpA,lD] at hr
  obtain ⟨j,hj,rfl⟩:=hr;cases h with
  | ptr _ _ u h0 ha h hp =>
   obtain ⟨o,ho⟩:=ha;obtain ⟨o',Dw,_⟩:=hm.fw _ _ _ hj ho;refine .ptr j off u h0 ⟨o',Dw⟩ (fun o3 hx hl => ?_) hp
   obtain ⟨o2,e2,e3⟩:=hm.bk _ _ _ hj hx;rw [(hm.at_ _ _ hj).1];exact h _ e2 (by rw [← bQ e3];exact hl)
 | .mp i,y,u,h,hr=>by
  simp only [mpA,lD] at hr
  obtain ⟨j,hj,rfl⟩:=hr;cases h with
  | mp _ u h0 ha h =>
   obtain ⟨o,ho⟩:=ha;obtain ⟨o',Dw,_⟩:=hm.fw _ _ _ hj ho;refine .mp j u h0 ⟨o',Dw⟩ fun o3 hx hl => ?_
   obtain ⟨o2,e2,e3⟩:=hm.bk _ _ _ hj hx;rw [(hm.at_ _ _ hj).1];exact h _ e2 (by rw [← bQ e3];exact hl)
 | .pa i q,y,u,h,hr=>by
  simp only [mpA,lD] at hr
  obtain ⟨j,hj,rfl⟩:=hr;cases h with
  | pa _ _ u h0 ha h =>
   obtain ⟨o,ho⟩:=ha;obtain ⟨o',Dw,_⟩:=hm.fw _ _ _ hj ho;refine .pa j q u h0 ⟨o',Dw⟩ fun o3 hx hl => ?_
   obtain ⟨o2,e2,e3⟩:=hm.bk _ _ _ hj hx;rw [(hm.at_ _ _ hj).2];exact h _ e2 (by rw [← bQ e3];exact hl)
 | .agg l,y,u,h,hr=>by
  simp only [mpA,lD] at hr
  obtain ⟨l',hl,rfl⟩:=hr;cases h with
  | agg _ vs h0 h1 h4 =>
   obtain ⟨q1,q2⟩:=gO (us:=fun i=>vs.getD i undef) h4 hl
   exact .agg _ _ (fun i hi=>h0 i (by omega)) (by omega) q2
 | .tup l,y,u,h,hr=>by
  simp only [mpA,lD] at hr
  obtain ⟨l',hl,rfl⟩:=hr;cases h with
  | tup _ vs h1 h4 =>
   obtain ⟨q1,q2⟩:=gO (us:=fun i=>vs.getD i undef) h4 hl
   exact .tup _ _ (by omega) q2
 | .fn g a b,y,u,h,hr=>by
  simp only [mpA] at hr
  split at hr
  ·rename_i a' ha
   simp only [lD] at hr
   obtain ⟨b',hb,rfl⟩:=hr;cases h with
   | fn _ _ _ us vs h1 h4 h5 h6 =>
    obtain ⟨q1,q2⟩:=gO (us:=fun i=>us.getD i undef) h5 ha
    obtain ⟨r1,r2⟩:=gO (us:=fun i=>vs.getD i undef) h6 hb
    exact .fn g _ _ us vs (by omega) (by omega) q2 r2
  ·cases hr
 | .p x,y,u,h,hr=>by simp only [mpA] at hr;cases hr;cases h with | p _ _ h=>exact .p _ _ (h.mono hm.F (fun _ _=>rfl))
 | .rp cs o,y,u,h,hr=>by
  simp only [mpA] at hr;cases hr
  cases h with | rp _ _ b o us h1 h2 h3=>exact .rp cs _ b o us (fun i hi=>⟨hm.F _ (h1 i hi).1,(h1 i hi).2⟩) (fun i hi=>(h2 i hi).mono hm.F (fun _ _=>rfl)) h3
 | .yld l,y,u,h,hr=>by simp only [mpA] at hr;cases hr;cases h;exact .yld _
 | .kb b,y,u,h,hr=>by simp only [mpA] at hr;cases hr;cases h;exact .kb _
 | .any,y,u,h,hr=>by simp only [mpA] at hr;cases hr;exact .any _
theorem gO:∀ {l ys:List AV} {us:Nat→Value},(∀ i (h:i<l.length),Rep C M w l[i] (us i))→mpL f l=some ys→ys.length=l.length∧∀ i (h:i<ys.length),Rep C' M' w ys[i] (us i)
 | [],_,_,_,hr=>by simp only [mpL] at hr;cases hr;exact ⟨rfl,fun i h=>by simp at h⟩
 | x::r,ys,us,h,hr=>by
  simp only [mpL] at hr
  split at hr
  ·rename_i y hy
   simp only [lD] at hr
   obtain ⟨r',G6,rfl⟩:=hr;obtain ⟨q1,q2⟩:=gO (us:=fun i=>us (i+1)) (fun i hi=>h (i+1) (by simpa using hi)) G6
   refine ⟨by simp [q1],fun i hi => ?_⟩
   cases i with
   | zero=>exact uJ (h 0 (by simp)) hy
   | succ i=>exact q2 i (by simpa using hi)
  ·cases hr
end
end

theorem sK{k:Nat}{ids:List Nat}{M':Mem}(hM:aT P C M w)(hd:distinct k ids=true)(Dr:rnM k ids (firsts M k 0++ids.map (at? M))=some M') :
  aT P (C.rn k ids) M' w∧bBm (rnI k ids) C (C.rn k ids) M M'∧∀ (j:Nat) (o':AO),M'[j]? = some (some o')→∃ i o,nW k ids j=some i∧M[i]? = some (some o)∧mpO (rnI k ids) o=some o':=by
 obtain ⟨g1,g2,g3⟩:=aDb Dr;have hat:∀ (i j:Nat) (o:AO),nW k ids j=some i→((firsts M k 0++ids.map (at? M))[j]? = some (some o)↔M[i]? = some (some o)):=fun i j o hs=>by
  unfold nW at hs
  split at hs
  ·rename_i hj
   cases hs;rw [zL (by rw [nL];exact hj),aHn _ _ _ _ hj,gU,Option.some.injEq,bH]
  ·rename_i hj
   rw [yD (by rw [nL];omega),nL,fR,hs,Option.map_some,Option.some.injEq]
   exact bH
 have hsrc:∀ (j:Nat) (o:AO),(firsts M k 0++ids.map (at? M))[j]? = some (some o)→∃ i,nW k ids j=some i:=fun j o hj=>by
  unfold nW
  split
  ·exact ⟨_,rfl⟩
  ·obtain ⟨hl,_⟩:=B3.1 hj
   rw [iF,nL,Cb] at hl
   exact ⟨_,Av (by omega)⟩
 have h2:∀ (j:Nat) (o':AO),M'[j]? = some (some o')→∃ i o,nW k ids j=some i∧M[i]? = some (some o)∧mpO (rnI k ids) o=some o':=fun j o' hj=>by
  obtain ⟨o,q1,q2⟩:=g2 j o' hj;obtain ⟨i,hi⟩:=hsrc j o q1;exact ⟨i,o,hi,(hat i j o hi).1 q1,q2⟩
 have hi:∀ j i,nW k ids j=some i→(C.rn k ids).ι j=C.ι i∧(C.rn k ids).κ j=C.κ i:=fun j i h=>by simp [Cx.rn,h]
 have hmp:bBm (rnI k ids) C (C.rn k ids) M M':=⟨fun i j o' hf hj=>by
  obtain ⟨i',o,q1,q2,q3⟩:=h2 j o' hj;rw [aKa hf] at q1;cases q1
  exact ⟨o,q2,q3⟩,fun i j o hf ho=>g3 j o ((hat i j o (aKa hf)).2 ho),fun i j hf=>hi j i (aKa hf),fun _ h=>h⟩
 refine ⟨⟨fun j ty n cs h => ?_,fun j ty cs h => ?_,fun j es cl h => ?_,fun j j' o1 o2 b q1 l1 q2 l2 e1 e2 => ?_,fun j o b h hl hb => ?_,hM.Fs,fun j o b h hl hb => ?_⟩,hmp,h2⟩
 ·obtain ⟨i,o,q1,q2,q3⟩:=h2 _ _ h
  rw [lU q3] at q2
  obtain ⟨r1,r2⟩:=hi j i q1;rw [r1,r2];exact hM.row _ _ _ _ q2
 ·obtain ⟨i,o,q1,q2,q3⟩:=h2 _ _ h
  obtain ⟨r1,r2⟩:=hi j i q1;cases o with
  | box Dh l =>
   simp only [mpO,lD] at q3
   obtain ⟨l',D3,e⟩:=q3;cases e;obtain ⟨b,arr,p0,p1,p2,p3,p4⟩:=hM.box _ _ _ q2;obtain ⟨n1,n2⟩:=gO hmp (w:=w) (us:=fun j=>arr.getD j undef) p3 D3
   exact ⟨b,arr,by rw [r1];exact p0,p1,by omega,n2,fun j hj=>p4 j (by omega)⟩
  | row=>simp [mpO] at q3
  | mp=>simp [mpO] at q3
  | pk=>simp [mpO] at q3
  | dead=>simp [mpO] at q3
 ·obtain ⟨i,o,q1,q2,q3⟩:=h2 _ _ h
  obtain ⟨r1,r2⟩:=hi j i q1;cases o with
  | mp Cp D4 =>
   simp only [mpO,Option.some.injEq] at q3
   cases q3;obtain ⟨b,arr,p0,p1,p2,p3⟩:=hM.mp _ _ _ q2;exact ⟨b,arr,by rw [r1];exact p0,p1,p2,p3⟩
  | row=>simp [mpO] at q3
  | box=>simp [mpO] at q3
  | pk=>simp [mpO] at q3
  | dead=>simp [mpO] at q3
 ·obtain ⟨i,o,q3,q4,q5⟩:=h2 _ _ q1
  obtain ⟨i',o',q6,q7,q8⟩:=h2 _ _ q2;rw [(hi _ _ q3).1] at e1
  rw [(hi _ _ q6).1] at e2
  have:=hM.inj i i' o o' b q4 (by rw [← bQ q5];exact l1) q7 (by rw [← bQ q8];exact l2) e1 e2
  subst this;exact aYl hd q3 q6
 ·obtain ⟨i,o',q3,q4,q5⟩:=h2 _ _ h
  rw [(hi _ _ q3).1] at hb
  exact hM.nF i o' b q4 (by rw [← bQ q5];exact hl) hb
 ·obtain ⟨i,o',q3,q4,q5⟩:=h2 _ _ h
  rw [(hi _ _ q3).1] at hb
  exact hM.lt i o' b q4 (by rw [← bQ q5];exact hl) hb

theorem aSf{k:Nat}{ids:List Nat}{st Am:St}{a:Act}(hk:M0.length≤k)(hp:pick k ids st=some Am)(hs:Sim P C0 M0 w0 st a w):Sim P C0 M0 w0 Am a w:=by
 obtain ⟨C,hS,hM,hF,hD⟩:=hs;unfold pick at hp
 split at hp
 ·rename_i hd
  split at hp
  ·rename_i t ht
   simp only [lD] at hp
   obtain ⟨M',Dr,rfl⟩:=hp;obtain ⟨G2,hmp,h2⟩:=sK hM hd Dr;obtain ⟨t1,t2⟩:=gO hmp (w:=w) (us:=fun i=>a.tmps.getD i undef) hS.rep ht
   have hi:∀ j i,nW k ids j=some i→(C.rn k ids).ι j=C.ι i∧(C.rn k ids).κ j=C.κ i:=fun j i h=>by simp [Cx.rn,h]
   have small:∀ (i:Nat) (o:AO),M0[i]? = some (some o)→nW k ids i=some i∧rnI k ids i=some i:=fun i o h=>by
    obtain ⟨hl,_⟩:=B3.1 h;have hik:i<k:=by omega
    have hb:Nat.blt i k=true:=by rw [Nat.blt_eq];exact hik
    exact ⟨by simp [nW,hik],by simp only [rnI,hb]⟩
   refine ⟨C.rn k ids,⟨by rw [hS.size];exact t1.symm,t2⟩,G2,
    ⟨hF.os,hF.tape,hF.out,hF.size,hF.keep,fun i o h => ?_,fun i o h ty n cs hx => ?_,fun i o h o' hx hl => ?_,fun j o b h hl hb => ?_,hF.F1,hF.F2⟩,hD.1,fun p hp => ?_,?_⟩
   ·obtain ⟨⟨o',q1⟩,q2,q3⟩:=hF.ids i o h
    obtain ⟨o2,q4,_⟩:=hmp.fw i i o' (small i o h).2 q1;obtain ⟨r1,r2⟩:=hi i i (small i o h).1;exact ⟨⟨o2,q4⟩,r1.trans q2,r2.trans q3⟩
   ·obtain ⟨i',o',q3,q4,q5⟩:=h2 _ _ hx
    rw [(small i o h).1] at q3;cases q3
    rw [lU q5] at q4
    exact hF.row _ _ h _ _ _ q4
   ·obtain ⟨i',o2,q3,q4,q5⟩:=h2 _ _ hx
    rw [(small i o h).1] at q3;cases q3
    exact hF.liv _ _ h _ q4 (by rw [← bQ q5];exact hl)
   ·obtain ⟨i,o',q3,q4,q5⟩:=h2 _ _ h
    rw [(hi _ _ q3).1] at hb
    exact hF.new i o' b q4 (by rw [← bQ q5];exact hl) hb
   ·obtain ⟨r1,r2,r3,r4,r5⟩:=hD.2.1 p hp
    refine ⟨r1,r2,r3,r4,fun j o h hl hb => ?_⟩
    obtain ⟨i,o',q3,q4,q5⟩:=h2 _ _ h;rw [(hi _ _ q3).1] at hb
    exact r5 i o' q4 (by rw [← bQ q5];exact hl) hb
   ·have lv:∀ (j:Nat) (o:AO),M'[j]? = some (some o)→o.live=true→∃ i o',nW k ids j=some i∧st.m[i]? = some (some o')∧o'.live=true:=fun j o h hl=>by
     obtain ⟨i,o',q3,q4,q5⟩:=h2 _ _ h;exact ⟨i,o',q3,q4,by rw [← bQ q5];exact hl⟩
    have pk:∀ (j to ti sz:Nat) (L:List (Nat × List PV)),M'[j]? = some (some (.pk to ti sz L))→∃ i,nW k ids j=some i∧st.m[i]? = some (some (.pk to ti sz L)):=fun j to ti sz L h=>by
     obtain ⟨i,o',q3,q4,q5⟩:=h2 _ _ h;refine ⟨i,q3,?_⟩;cases o' with
     | pk=>simp only [mpO,Option.some.injEq] at q5;rw [← q5];exact q4
     | box=>simp [mpO] at q5
     | _=>simp [mpO] at q5
    refine ⟨fun j to ti sz L h => ?_,fun j j' to ti sz Rp Rq Rr L L' h h' hne b hb A1 => ?_⟩
    ·obtain ⟨i,q3,q4⟩:=pk _ _ _ _ _ h
     obtain ⟨p,p0,p1⟩:=hD.2.2.1 _ _ _ _ _ q4;obtain ⟨r1,r2⟩:=hi j i q3;refine ⟨p.move (r1.trans p.io) r2 (fun _ h=>h) (fun _ _=>rfl) fun b hb=>⟨rfl,(p.own b hb).1,fun j2 o2 ho hl => ?_⟩,fun o ho => ?_,by rw [r2];exact p1⟩
     ·obtain ⟨i2,o3,s1,s2,s3⟩:=lv j2 o2 ho hl
      rw [(hi _ _ s1).1];exact (p.own b hb).2 i2 o3 s2 s3
     ·have:=(small j o ho).1
      rw [this] at q3;cases q3
      exact p0 o ho
    ·obtain ⟨i,q3,q4⟩:=pk _ _ _ _ _ h
     obtain ⟨i',Ls,Vo⟩:=pk _ _ _ _ _ h';rw [(hi j i q3).2] at hb
     rw [(hi j' i' Ls).2] at A1
     refine hD.2.2.2 _ _ _ _ _ _ _ _ _ _ q4 Vo (fun e=>hne ?_) b hb A1
     subst e;exact aYl hd q3 Ls
  ·cases hp
 ·cases hp

def aHo:List Nat→St→Option St
 | [],st=>some st
 | i::r,st=>match Rs i st with
  | some Am=>aHo r Am
  | none=>match fzP i st with
   | some Am=>aHo r Am
   | none=>match fzM i st with
    | some Am=>aHo r Am
    | none=>none
def nlC(id off ty:Nat)(st:St):Option St:=match st.m[id]? with
 | some (some (.box bty cs))=>match cs[off]? with
  | some (.p (.v (.slice none 0 0)))=>match Nat.beq ty 99999 with
   | true=>some ⟨st.t,bA st.m id (some (.box bty (cs.set off (.p (.sl 0 [])))))⟩
   | false=>match fP st.m st.m.length with
    | true=>some ⟨st.t,bA (bA st.m st.m.length (some (.row ty 0 []))) id (some (.box bty (cs.set off (.own st.m.length))))⟩
    | false=>none
  | some (.kb b)=>some ⟨st.t,bA st.m id (some (.box bty (cs.set off (.p (.v (.bool b))))))⟩
  | _=>none
 | _=>none
def nlS(i ty:Nat)(st:St):Option St:=match st.t[i]? with
 | some (.p (.v (.slice none 0 0)))=>match Nat.beq ty 99999 with
  | true=>some ⟨st.t.set i (.p (.sl 0 [])),st.m⟩
  | false=>match fP st.m st.m.length with
   | true=>some ⟨st.t.set i (.own st.m.length),bA st.m st.m.length (some (.row ty 0 []))⟩
   | false=>none
 | some (.kb b)=>some ⟨st.t.set i (.p (.v (.bool b))),st.m⟩
 | _=>none
def Rt(i ty:Nat)(st:St):Option St:=match Nat.ble 100000 i with
 | true=>nlC ((i-100000) / 1000) ((i-100000) % 1000) ty st
 | false=>match Nat.ble 1000000000 ty with
  | true=>nlP i ((ty-1000000000) / 1000000) ((ty-1000000000) / 100 % 10000) ((ty-1000000000) % 100) st
  | false=>nlS i ty st
def aYm:List (Nat × Nat)→St→Option St
 | [],st=>some st
 | (i,ty)::r,st=>match Rt i ty st with
  | some Am=>aYm r Am
  | none=>none
def gh(k:Nat)(g:Gh)(st:St):Option St:=match aHo g.fz st with
 | some st1=>match aYm g.nl st1 with
  | some st2=>pick k g.ids ⟨forget g.fg st2.t,st2.m⟩
  | none=>none
 | none=>none
theorem aDc(hM:aT P C M w){id bty off:Nat}{cs:List AV}{x:AV}(hb:M[id]? = some (some (.box bty cs)))(hoff:off<cs.length)
  (hx:∀ u,Rep C M w cs[off] u→Rep C (bA M id (some (.box bty (cs.set off x)))) w x u):aT P C (bA M id (some (.box bty (cs.set off x)))) w∧Fr C M w C (bA M id (some (.box bty (cs.set off x)))) w:=by
 have hold:∀ (i:Nat) (o:AO),i≠id→(bA M id (some (.box bty (cs.set off x))))[i]? = some (some o)→M[i]? = some (some o):=fun i o h=>(aS M id i _ o (fun e=>h e.symm)).1
 have hnew:∀ (o:AO),(bA M id (some (.box bty (cs.set off x))))[id]? = some (some o)→o = .box bty (cs.set off x):=fun o h=>by rw [aZ] at h;cases h;rfl
 have hliv:∀ (i:Nat) (o:AO),(bA M id (some (.box bty (cs.set off x))))[i]? = some (some o)→o.live=true→∃ o1,M[i]? = some (some o1)∧o1.live=true:=fun i o h hl=>by
  by_cases e:i=id
  ·subst e;exact ⟨_,hb,rfl⟩
  ·exact ⟨o,hold i o e h,hl⟩
 have f:Fr C M w C (bA M id (some (.box bty (cs.set off x)))) w:=by
  refine ⟨rfl,rfl,rfl,dG _,fun _ _ _=>rfl,fun i o h=>⟨?_,rfl,rfl⟩,fun i o h ty n Mr hm => ?_,fun i o h o' h' hl => ?_,fun i o b h hl hbb => ?_,fun b h=>h,fun b h => .inl h⟩
  ·by_cases e:i=id
   ·subst e;exact ⟨_,aZ ..⟩
   ·exact ⟨o,(aS M id i _ o (fun e'=>e e'.symm)).2 h⟩
  ·by_cases e:i=id
   ·subst e;cases hnew _ hm
   ·exact ⟨Mr,hold i _ e hm⟩
  ·obtain ⟨o1,q1,q2⟩:=hliv i o' h' hl
   rw [h] at q1;cases q1;exact q2
  ·obtain ⟨o1,q1,q2⟩:=hliv i o h hl
   exact .inr ⟨i,o1,q1,q2,hbb⟩
 have hL:=hM.le f;refine ⟨⟨fun i ty n Mr hm => ?_,fun i ty Mr hm => ?_,fun i es cl hm => ?_,fun i i' o1 o2 b hm hl Dr D3 h1 h2 => ?_,fun i o b hm hl hbb => ?_,hM.Fs,fun i o b hm hl hbb => ?_⟩,f⟩
 ·by_cases e:i=id
  ·subst e;cases hnew _ hm
  ·exact hM.row _ _ _ _ (hold i _ e hm)
 ·by_cases e:i=id
  ·subst e
   cases hnew _ hm;obtain ⟨b,arr,q0,q1,q2,q3,q4⟩:=hM.box _ _ _ hb;refine ⟨b,arr,q0,q1,by simpa using q2,fun j hj => ?_,fun j hj=>q4 j (by simpa using hj)⟩
   rw [zN]
   split
   ·rename_i e2;subst e2;exact hx _ (q3 _ hoff)
   ·exact (q3 j (by simpa using hj)).mono hL
  ·obtain ⟨b,arr,q0,q1,q2,q3,q4⟩:=hM.box _ _ _ (hold i _ e hm)
   exact ⟨b,arr,q0,q1,q2,fun j hj=>(q3 j hj).mono hL,q4⟩
 ·by_cases e:i=id
  ·subst e;cases hnew _ hm
  ·obtain ⟨b,arr,q0,q1,q2,q3⟩:=hM.mp _ _ _ (hold i _ e hm)
   refine ⟨b,arr,q0,q1,q2,fun j hj => ?_⟩
   obtain ⟨en,r1,r2,r3,r4⟩:=q3 j hj;exact ⟨en,r1,r2,r3,r4.mono hL.F hL.fz⟩
 ·obtain ⟨x1,y1,z1⟩:=hliv i o1 hm hl
  obtain ⟨x2,y2,z2⟩:=hliv i' o2 Dr D3;exact hM.inj _ _ _ _ _ y1 z1 y2 z2 h1 h2
 ·obtain ⟨x1,y1,z1⟩:=hliv i o hm hl
  exact hM.nF _ _ _ y1 z1 hbb
 ·obtain ⟨x1,y1,z1⟩:=hliv i o hm hl
  exact hM.lt _ _ _ y1 z1 hbb
theorem bBn{id off ty:Nat}{st Am:St}{a:Act}(h:nlC id off ty st=some Am)(hs:Sim P C0 M0 w0 st a w):Sim P C0 M0 w0 Am a w:=by
 obtain ⟨C,hS,hM,hF,hD⟩:=hs;unfold nlC at h
 split at h
 ·rename_i bty cs hi
  split at h
  ·rename_i hc
   split at h
   ·cases h
    obtain ⟨hoff,hcv⟩:=B3.1 hc;obtain ⟨Ie,f2⟩:=aDc hM hi hoff (x := .p (.sl 0 [])) (fun u hu=>by
     rw [hcv] at hu
     cases hu with
     | p _ _ h =>
      cases h;exact .p _ _ (.sl 0 [] none 0 (fun _=>undef) (dG _) (Nat.zero_le _) (fun i hi=>by simp at hi) (fun i hi=>by simp at hi) (fun i hi=>by simp at hi)))
    exact ⟨C,hS.le (hM.le f2),Ie,hF.trans f2,hD.fr hM (gF rfl) f2⟩
   ·split at h
    ·rename_i hb
     cases h;have hf:=cU hb;have f:=xV (C:=C) (w:=w) (ty:=ty) hf;have Ch:=xW (ty:=ty) hM hf;have hne:id≠st.m.length:=fun e=>hf _ (e ▸ hi)
     have H4:(bA st.m st.m.length (some (.row ty 0 [])))[id]? = some (some (.box bty cs)):=(aS st.m st.m.length id _ _ (fun e=>hne e.symm)).2 hi
     obtain ⟨hoff,hcv⟩:=B3.1 hc;have hnw:(bA (bA st.m st.m.length (some (.row ty 0 []))) id (some (.box bty (cs.set off (.own st.m.length)))))[st.m.length]? = some (some (.row ty 0 [])):=(aS _ id st.m.length _ _ hne).2 (aZ ..);obtain ⟨Ie,f2⟩:=aDc Ch H4 hoff (x := .own st.m.length) (fun u hu=>by
      rw [hcv] at hu
      cases hu with
      | p _ _ h =>
       cases h;exact .own _ _ rfl ⟨_,hnw⟩ fun ty n cs h=>by rw [hnw] at h;cases h;exact .inl ⟨rfl,by simp [Cx.nil],rfl⟩)
     exact ⟨C.nil st.m.length,(hS.le (hM.le f)).le (Ch.le f2),Ie,(hF.trans f).trans f2,hD.fr hM ((gF rfl).trans (gF rfl)) (f.trans f2)⟩
    ·cases h
  ·rename_i b hc
   cases h;obtain ⟨hoff,hcv⟩:=B3.1 hc;obtain ⟨Ie,f2⟩:=aDc hM hi hoff (x := .p (.v (.bool b))) (fun u hu=>by
    rw [hcv] at hu
    cases hu;exact .p _ _ (.v _))
   exact ⟨C,hS.le (hM.le f2),Ie,hF.trans f2,hD.fr hM (gF rfl) f2⟩
  ·cases h
 ·cases h
theorem bBo{i ty:Nat}{st Am:St}{a:Act}(h:nlS i ty st=some Am)(hs:Sim P C0 M0 w0 st a w):Sim P C0 M0 w0 Am a w:=by
 obtain ⟨C,hS,hM,hF,hD⟩:=hs;unfold nlS at h
 split at h
 ·rename_i hi
  split at h
  ·cases h
   refine ⟨C,⟨by simpa using hS.size,fun j hj => ?_⟩,hM,hF,hD⟩
   simp only [nZ] at hj
   rw [zN]
   split
   ·rename_i e
    subst e;have hr:=hS.at hi
    generalize a.tmps.getD i undef=u at hr ⊢
    cases hr with
    | p _ _ h =>
     cases h;exact .p _ _ (.sl 0 [] none 0 (fun _=>undef) (dG _) (Nat.zero_le _) (fun i hi=>by simp at hi) (fun i hi=>by simp at hi) (fun i hi=>by simp at hi))
   ·exact hS.rep j hj
  ·split at h
   ·rename_i hb
    cases h;have hf:=cU hb;have f:=xV (C:=C) (w:=w) (ty:=ty) hf;have hL:=hM.le f;refine ⟨C.nil st.m.length,⟨by simpa using hS.size,fun j hj => ?_⟩,xW hM hf,hF.trans f,hD.fr hM (gF rfl) f⟩
    simp only [nZ] at hj
    rw [zN]
    split
    ·rename_i e
     subst e;have hr:=hS.at hi
     generalize a.tmps.getD i undef=u at hr ⊢
     cases hr with
     | p _ _ h =>
      cases h;exact .own _ _ rfl ⟨_,aZ ..⟩ fun ty n cs h=>by rw [aZ] at h;cases h;exact .inl ⟨rfl,by simp [Cx.nil],rfl⟩
    ·exact (hS.rep j hj).mono hL
   ·cases h
 ·rename_i b hi
  cases h;refine ⟨C,⟨by simpa using hS.size,fun j hj => ?_⟩,hM,hF,hD⟩
  simp only [nZ] at hj
  rw [zN]
  split
  ·rename_i e
   subst e;have hr:=hS.at hi
   generalize a.tmps.getD i undef=u at hr ⊢
   cases hr;exact .p _ _ (.v _)
  ·exact hS.rep j hj
 ·cases h
theorem bBp{i ty:Nat}{st Am:St}{a:Act}(h:Rt i ty st=some Am)(hs:Sim P C0 M0 w0 st a w):Sim P C0 M0 w0 Am a w:=by
 unfold Rt at h
 split at h
 ·exact bBn h hs
 ·split at h
  ·exact bBu h hs
  ·exact bBo h hs
theorem aAs:∀ (l:List (Nat × Nat)) {st Am:St} {a:Act},aYm l st=some Am→Sim P C0 M0 w0 st a w→Sim P C0 M0 w0 Am a w
 | [],st,Am,a,h,hs=>by cases h;exact hs
 | (i,ty)::r,st,Am,a,h,hs=>by
  unfold aYm at h
  split at h
  ·rename_i h1
   exact aAs r h (bBp h1 hs)
  ·cases h
theorem oC:∀ (l:List Nat) {st Am:St} {a:Act},aHo l st=some Am→Sim P C0 M0 w0 st a w→Sim P C0 M0 w0 Am a w
 | [],st,Am,a,h,hs=>by cases h;exact hs
 | i::r,st,Am,a,h,hs=>by
  unfold aHo at h
  split at h
  ·rename_i h1
   exact oC r h (bBv h1 hs)
  ·split at h
   ·rename_i h1
    exact oC r h (bBt h1 hs)
   ·split at h
    ·rename_i h1
     exact oC r h (bBs h1 hs)
    ·cases h
theorem eV{k:Nat}{g:Gh}{st Am:St}{a:Act}(hk:M0.length≤k)(h:gh k g st=some Am)(hs:Sim P C0 M0 w0 st a w):Sim P C0 M0 w0 Am a w:=by
 unfold gh at h
 split at h
 ·rename_i h1
  split at h
  ·rename_i h2
   exact aSf hk h (aKb g.fg (aAs _ h2 (oC _ h1 hs)))
  ·cases h
 ·cases h
end
section
variable {P:Program} {T:TT} {E:Env} {C C0:Cx} {M M0:Mem} {w w0:World}

theorem bNf(hM:aT P C M w){w1:World}(hw:w1.heap=w.heap):aT P C M w1∧Le C C M M w w1:=by
 have hL:Le C C M M w w1:=⟨fun _ o h=>⟨o,h⟩,fun _ _ _ _ _ cs h=>⟨cs,h⟩,fun _ o h o' h' hl=>by rw [h] at h';cases h';exact ⟨hl,rfl,rfl⟩,fun _ h=>h,fun _ _=>by rw [hw]⟩
 have hsz:w1.heap.size=w.heap.size:=by rw [hw]
 refine ⟨⟨fun i Dh n cs hm => ?_,fun i Dh cs hm => ?_,fun i es cl hm => ?_,hM.inj,hM.nF,fun b hb=>by rw [hsz];exact hM.Fs b hb,fun i x b hm hl hb=>by rw [hsz];exact hM.lt i x b hm hl hb⟩,hL⟩
 ·rcases hM.row _ _ _ _ hm with h4 | ⟨b,arr,inf,q0,q1,q2,q3,q4,q5,q6,q7,q8⟩
  ·exact .inl h4
  ·exact .inr ⟨b,arr,inf,q0,by rw [hw];exact q1,q2,q3,q4,q5,q6,fun j hj=>(q7 j hj).mono hL.F hL.fz,q8⟩
 ·obtain ⟨b,arr,q0,q1,q2,q3,q4⟩:=hM.box _ _ _ hm
  exact ⟨b,arr,q0,by rw [hw];exact q1,q2,fun j hj=>(q3 j hj).mono hL,q4⟩
 ·obtain ⟨b,arr,q0,q1,q2,q3⟩:=hM.mp _ _ _ hm
  refine ⟨b,arr,q0,by rw [hw];exact q1,q2,fun j hj => ?_⟩
  obtain ⟨en,r1,r2,r3,r4⟩:=q3 j hj;exact ⟨en,r1,r2,r3,r4.mono hL.F hL.fz⟩
theorem aYk{w1:World}(hw:w1.heap=w.heap)(ho:w1.os=w.os)(ht:w1.tape=w.tape)(hu:w1.output=w.output):Fr C M w C M w1 :=
 ⟨ho,ht,hu,by rw [hw];exact dG _,fun b _ _=>by rw [hw],fun _ x h=>⟨⟨x,h⟩,rfl,rfl⟩,fun _ _ _ _ _ cs h=>⟨cs,h⟩,fun _ o h o' h' hl=>by rw [h] at h';cases h';exact hl,fun i x _ h hl hb => .inr ⟨i,x,h,hl,hb⟩,fun _ h=>h,fun _ h => .inl h⟩

theorem Sim.drawn{st:St}{a:Act}(h:Sim P C0 M0 w0 st a w)(k:Nat):Sim P C0 M0 w0 st a { w with drawn:=k }:=by
 obtain ⟨C,hS,hM,hF,hD⟩:=h;obtain ⟨m,l⟩:=bNf hM (w1:={ w with drawn:=k }) rfl
 exact ⟨C,hS.le l,m,hF.trans (aYk rfl rfl rfl rfl),hD.fr hM .refl (aYk rfl rfl rfl rfl)⟩

def bTp(ops:Array Oper)(k:Nat)(o:Oper):List Oper→Bool
 | []=>true
 | y::r=>(o.apart ops y || y.after.toList.any fun e=>Region.binds .any e && e.on == k) && bTp ops k o r
def bTq(ops:Array Oper):Nat→List Oper→Bool
 | _,[]=>true
 | k,o::r=>(o.after.toList.all fun e => !Region.binds .any e || Nat.blt e.on k) && bTp ops k o r && bTq ops (k+1) r
def cAh(ops:Array Oper):Bool:=Region.noSelect ops && bTq ops 0 ops.toList
theorem aHk{ops:Array Oper}{k:Nat}{o:Oper}:∀ {r:List Oper},bTp ops k o r=true→∀ y∈r,(y.after.any fun e=>Region.binds .any e && e.on == k)=true∨o.apart ops y=true
 | [],_,y,hy=>by cases hy
 | z::r,h,y,hy=>by
  unfold bTp at h
  rw [B7,wN] at h
  rcases fU.1 hy with rfl | hy
  ·rcases h.1 with h1 | h1
   ·exact .inr h1
   ·rw [Array.any_toList] at h1;exact .inl h1
  ·exact aHk h.2 y hy
theorem aHl{ops:Array Oper}:∀ (r:List Oper) (k:Nat) (listed:Array Bool),ops.toList.drop k=r→k+r.length=ops.size→listed.size=ops.size→(∀ j,j<ops.size→listed[j]? = some (decide (j<k))) →
  bTq ops k r=true→Region.lexFrom .any ops r.length k listed=true
 | [],k,listed,hd,hk,hz,hl,h=>by
  show (Region.ready .any ops listed).isEmpty=true;unfold Region.ready;rw [List.isEmpty_iff,List.filter_eq_nil_iff];intro i hi;have hi:=iJ.1 hi;have h1:listed.getD i true=true:=by
   rw [B4,hl i hi];have:k=ops.size:=by simpa using hk
   simp;omega
  rw [h1];simp
 | o::r,k,listed,hd,hk,hz,hl,h=>by
  unfold bTq at h
  rw [B7,B7] at h
  obtain ⟨⟨h1,h2⟩,h3⟩:=h;rw [nX] at hk
  have hko:ops[k]? = some o:=by
   have:(ops.toList.drop k)[0]? = some o:=by rw [hd];rfl
   rw [List.getElem?_drop] at this
   simpa using this
  have hdr:ops.toList.drop (k+1)=r:=by
   have:=congrArg List.tail hd;rw [List.tail_drop] at this
   exact this
  have hlk:listed.getD k true=false:=by
   rw [B4,hl k (by omega)];simp
  show ((Region.ready .any ops listed).contains k && Region.free .any ops listed k && Region.lexFrom .any ops r.length (k+1) (listed.setIfInBounds k true))=true;rw [B7,B7];refine ⟨⟨?_,?_⟩,?_⟩
  ·rw [List.contains_iff_mem]
   unfold Region.ready;rw [kK];refine ⟨iJ.2 (by omega),?_⟩
   rw [hlk,hko];show (!false && o.after.all fun e => !Region.binds .any e || listed.getD e.on false)=true
   rw [Bool.not_false,gA,← Array.all_toList,gJ];intro e he;have:=gJ.1 h1 e he;rw [wN] at this ⊢
   rcases this with q | q
   ·exact .inl q
   ·have q:e.on<k:=by simpa using q
    refine .inr ?_;rw [B4,hl e.on (by omega)]
    simp [q]
  ·unfold Region.free
   rw [hko];show ((List.range ops.size).all _)=true;rw [gJ];intro j hj;have hj:=iJ.1 hj
   rcases Nat.lt_trichotomy j k with q | q | q
   ·have:listed.getD j true=true:=by rw [B4,hl j hj];simp [q]
    rw [this];simp
   ·subst q;simp
   ·obtain ⟨y,hy⟩:∃ y,ops[j]? = some y:=⟨_,rL hj⟩
    rw [hy];have hm:y∈r:=by
     rw [← hdr];have:(ops.toList.drop (k+1))[j-(k+1)]? = some y:=by
      rw [List.getElem?_drop,show k+1+(j-(k+1))=j by omega]
      simpa using hy
     exact Bi this
    have:=aHk h2 y hm;show (j == k || listed.getD j true || ((y.after.any fun e=>Region.binds .any e && e.on == k) || o.apart ops y))=true
    rw [wN,wN (_) (o.apart ops y)];exact .inr this
  ·refine aHl r (k+1) _ hdr (by omega) (by rw [Array.size_setIfInBounds];exact hz) (fun j hj => ?_) h3
   rw [Array.getElem?_setIfInBounds]
   by_cases q:k=j
   ·subst q
    rw [if_pos rfl,if_pos (by omega)];simp
   ·rw [if_neg q,hl j hj]
    congr 1
    rw [decide_eq_decide];omega
theorem zC{ops:Array Oper}(h:cAh ops=true):Region.lexB .any ops=true:=by
 unfold cAh at h
 rw [B7] at h
 unfold Region.lexB;rw [B7];refine ⟨h.1,?_⟩;have:=aHl ops.toList 0 (Array.replicate ops.size false) rfl (by simp) (by simp) (fun j hj=>by simp [hj]) h.2
 simpa using this
def aNw(P:Program)(T:TT)(E:Env)(ops:Array Oper)(draw:Bool)(st:St):Ask St:=match draw with
 | false=>bCm P T E ops.toList ops.toList st
 | true=>do
  lift (if cAh ops then some () else none)
  let r ← aSh P T E ops.toList ops.toList st.m.length st
  lift (if aKd ops 0 r.1 then some () else none)
  pure r.2

def Ex.toExit:Ex→Exit
 | .normal => .normal
 | .ret => .ret
 | .exit id => .exit id

def aHm(body:St→Ask (Ex × St)):Nat→St→Ask (Ex × St)
 | 0,_=>fail
 | n+1,st=>do
  let r ← body st
  match r.1 with
  | .normal=>aHm body n r.2
  | e=>pure (e,r.2)

def bTr:Op→Bool
 | .makeMap _ _=>true
 | .lookup _ _ _ _=>true
 | .mapUpdate _ _ _ _=>true
 | _=>false
def nrf:Code→Bool
 | .region _ ops _=>ops.toList.all fun o => !bTr o.op
 | .seq a b=>nrf a && nrf b
 | .cond _ a b=>nrf a && nrf b
 | .block _ b=>nrf b
 | .loop b=>nrf b
 | .scope b=>nrf b
 | .rangeFunc _ _ _ _=>false
 | _=>true
def mF(ro:Option Nat)(c:Code):Prop:=ro=none∨nrf c=true
section
variable {ro:Option Nat} {a b:Code} {x:Operand} {id:Nat}
theorem mF.seq1(h:mF ro (.seq a b)):mF ro a:=h.imp (fun h=>h) fun h=>by unfold nrf at h;rw [B7] at h;exact h.1
theorem mF.seq2(h:mF ro (.seq a b)):mF ro b:=h.imp (fun h=>h) fun h=>by unfold nrf at h;rw [B7] at h;exact h.2
theorem mF.cond1(h:mF ro (.cond x a b)):mF ro a:=h.imp (fun h=>h) fun h=>by unfold nrf at h;rw [B7] at h;exact h.1
theorem mF.cond2(h:mF ro (.cond x a b)):mF ro b:=h.imp (fun h=>h) fun h=>by unfold nrf at h;rw [B7] at h;exact h.2
theorem mF.block(h:mF ro (.block id b)):mF ro b:=h
theorem mF.loop(h:mF ro (.loop b)):mF ro b:=h
theorem mF.scope(h:mF ro (.scope b)):mF ro b:=h
end

def aC(P:Program)(k:Nat)(c:Code)(st:St)(e:Ex)(Am:St):Prop:=∀ (C0:Cx) (M0:Mem) (w0:World) (a:Act) (w:World),M0.length≤k→Sim P C0 M0 w0 st a w→∀ (ro:Option Nat),mF ro c→∀ (n:Nat),c.wpIn (Fen ro) n P (fun e' a' w'=>e'=e.toExit∧Sim P C0 M0 w0 Am a' w') a w

def aGm(P:Program)(k:Nat)(c:Code)(m:St→Ask (Ex × St))(st:St):Ask (Ex × St):=fun s=>match s.auto with
 | true=>m st s
 | false=>match s.o with
  | .k 0 g e Am::r=>match gh k g st with
   | some st1=>some ((e,Am),{ s with o:=r,obs:=aC P k c st1 e Am::s.obs })
   | none=>none
  | .k (n+1) g e Am::r=>m st { s with o := .k n g e Am::r }
  | .g 0 g::r=>match gh k g st with
   | some st1=>m st1 { s with o:=r }
   | none=>none
  | .g (n+1) g::r=>m st { s with o := .g n g::r }
  | _=>m st s
def sJ{α:Type}(m:Ask α):Ask α:=fun s=>match s.auto with
 | true=>m s
 | false=>none

def aBq(P:Program)(T:TT)(E:Env)(k fuel:Nat):Code→St→Ask (Ex × St)
 | .skip,st=>pure (.normal,st)
 | .region id ops d,st=>aGm P k (.region id ops d) (fun st=>do let Am ← aNw P T E ops d st;pure (.normal,Am)) st
 | .seq a b,st=>aGm P k (.seq a b) (fun st=>do
  let r ← aBq P T E k fuel a st
  match r.1 with
  | .normal=>aBq P T E k fuel b r.2
  | e=>pure (e,r.2)) st
 | .cond c a b,st=>aGm P k (.cond c a b) (fun st=>do
  let x ← lift (ev st c)
  let d ← aTk x
  match d with
  | true=>aBq P T E k fuel a st
  | false=>aBq P T E k fuel b st) st
 | .block id b,st=>aGm P k (.block id b) (fun st=>do
  let r ← aBq P T E k fuel b st
  match r.1 with
  | .exit i=>match Nat.beq i id with
   | true=>pure (.normal,r.2)
   | false=>pure (.exit i,r.2)
  | e=>pure (e,r.2)) st
 | .loop b,st=>aGm P k (.loop b) (fun st=>sJ (aHm (fun st=>aBq P T E k fuel b st) fuel st)) st
 | .exit id,st=>pure (.exit id,st)
 | .label _,st=>pure (.normal,st)
 | .scope b,st=>aBq P T E k fuel b st
 | .ret,st=>pure (.ret,st)
 | c,st=>aGm P k c (fun _=>fail) st

theorem aC.pre{k:Nat}{c:Code}{st st1 Am:St}{e:Ex}{g:Gh}(hg:gh k g st=some st1)(h:aC P k c st1 e Am):aC P k c st e Am:=fun C0 M0 w0 a w hk hs ro hro n=>h C0 M0 w0 a w hk (eV hk hg hs) ro hro n
theorem aC.post{k:Nat}{c:Code}{st st1 Am:St}{e:Ex}{g:Gh}(hg:gh k g st1=some Am)(h:aC P k c st e st1):aC P k c st e Am:=fun C0 M0 w0 a w hk hs ro hro n=>wpIn_mono (h C0 M0 w0 a w hk hs ro hro n) (fun _ _ _ hq=>⟨hq.1,eV hk hg hq.2⟩)
theorem lG{k:Nat}{c:Code}{m:St→Ask (Ex × St)}(hm:∀ {st Am:St} {e:Ex} {s s':AS},m st s=some ((e,Am),s')→bC s'→aC P k c st e Am){st Am:St}{e:Ex}{s s':AS}(h:aGm P k c m st s=some ((e,Am),s'))(g:bC s'):aC P k c st e Am:=by
 unfold aGm at h
 cases ha:s.auto with
 | true=>rw [ha] at h;exact hm h g
 | false =>
  rw [ha] at h
  dsimp only at h
  split at h
  ·split at h
   ·rename_i hg
    cases h;exact (g.tail.1).pre hg
   ·cases h
  ·exact hm h g
  ·split at h
   ·rename_i hg
    exact (hm h g).pre hg
   ·cases h
  ·exact hm h g
  ·exact hm h g
theorem nE{k:Nat}{c:Code}{m:St→Ask (Ex × St)}(hm:∀ st,cJ (m st))(st:St):cJ (aGm P k c m st):=fun s r s' h p hp=>by
 unfold aGm at h
 cases ha:s.auto with
 | true=>rw [ha] at h;exact hm _ _ _ _ h p hp
 | false =>
  rw [ha] at h
  dsimp only at h
  split at h
  ·split at h
   ·cases h;exact Cj _ hp
   ·cases h
  ·exact hm _ _ _ _ h p hp
  ·split at h
   ·exact hm _ _ _ _ h p hp
   ·cases h
  ·exact hm _ _ _ _ h p hp
  ·exact hm _ _ _ _ h p hp
theorem bBl{α:Type}{m:Ask α}(hm:cJ m):cJ (sJ m):=fun s r s' h p hp=>by
 unfold sJ at h
 split at h
 ·exact hm _ _ _ h p hp
 ·cases h
theorem bNg{α:Type}{m:Ask α}{s s':AS}{r:α}(h:sJ m s=some (r,s')):m s=some (r,s'):=by
 unfold sJ at h
 split at h
 ·exact h
 ·cases h

theorem aSd(hT:∀ t i,T t=some i→cN P t=some i)(hE:mR P E)(hm:P.follows .mixedOrders=true){id:Nat}{ops:Array Oper}{d:Bool}{st Am:St}{s s':AS}(h:aNw P T E ops d st s=some (Am,s'))(g:bC s'){k:Nat}:aC P k (.region id ops d) st .normal Am:=by
 intro C0 M0 w0 a w _ hs ro hro n;cases d with
 | false =>
  refine wpIn_region ?_;have:=wC hT hE ops.toList 0 (fun j=>by simp) h g C0 M0 w0 a w hs ro n (fun e' a' w'=>e'=Ex.normal.toExit∧Sim P C0 M0 w0 Am a' w') (fun a' w' h'=>⟨rfl,h'⟩)
  simpa using this
 | true =>
  obtain ⟨_,s1,h1,k1⟩:=aD h;obtain ⟨e1,rfl⟩:=aF h1;obtain ⟨r,s2,h2,k2⟩:=aD k1;obtain ⟨_,s3,h3,k3⟩:=aD k2;obtain ⟨e3,rfl⟩:=aF h3;obtain ⟨rfl,rfl⟩:=aK k3;obtain ⟨hB,_⟩:=bU e1;obtain ⟨hA,_⟩:=bU e3;obtain ⟨os,hfts,hlex⟩:=sM ops.toList _ (fts:=r.1) (fin:=r.2) h2 g
  replace hB:=zC hB
  unfold Region.lexB at hB
  rw [B7] at hB
  have hlen:os.length=ops.toList.length:=by
   have:∀ {l:List Oper} {id:Nat} {st:St} {os:List xK} {fin:St},aNx P T E ops.toList id l st os fin→os.length=l.length:=by
    intro l
    induction l with
    | nil=>intro id st os fin h;cases h;rfl
    | cons o l ih=>intro id st os fin h;cases h with | cons _ _ _ _ q os _ h hr=>simp [ih hr]
   exact this hlex
  have key:qD P T E ops.toList st.m.length (fun k=>os.getD k (.any,[],none)) r.2 ops.toList.length (Array.replicate ops.size false) st:=by
   refine qD.lex ops.toList 0 _ st os (fun j=>by simp) (fun j q hj=>by simp [Bv,hj]) (fun j hj=>absurd hj (aTs _)) (fun j oj hj hl => ?_) (fun i j _ hij hj => ?_) (by simpa using hB.2) (by simpa [ido] using hlex)
   ·exfalso
    rcases Nat.lt_or_ge j ops.size with h' | h'
    ·simp [h'] at hl
    ·simp [Nat.not_lt.2 h'] at hl
   have Du:j<os.length:=by
    rw [hlen];obtain ⟨o,ho⟩:=Option.isSome_iff_exists.1 hj;exact (B3.1 ho).1
   have:=oD r.1 0 hA i j (aDd os[i]) (aDd os[j]) hij (by rw [hfts,fR,Av (by omega)];rfl) (by rw [hfts,fR,Av Du];rfl)
   rw [gU,gU] at this
   simp only [Bv,Av Du,Av (show i<os.length by omega),Option.getD_some,Array.toArray_toList]
   exact this
  refine wpIn_region_any hm ?_;have:=qD.sound hT hE (C0:=C0) (M0:=M0) (w0:=w0) (ro:=ro) (n:=n) (Q:=fun e' a' w'=>e'=Ex.normal.toExit∧Sim P C0 M0 w0 r.2 a' w') (fun a' w' h'=>⟨rfl,h'⟩) _ _ _ a _ key (hs.drawn (w.drawn+1))
  simpa using this

theorem kD{b:Frame}{a:Act}{k:List Item}{cs:List Frame}{c:Code}:step P (lone (b.atR a (.code (.scope c)::k)) cs w) = .next (lone (b.atR a (.code c :: .inScope c::k)) cs w) :=
 step_lone_go (by simp [stepG,stepG.exec,Frame.atR])
theorem aGn{b:Frame}{a:Act}{k:List Item}{cs:List Frame}{c:Code}:step P (lone (b.atR a (.inScope c::k)) cs w) = .next (lone (b.atR a k) cs w) :=
 step_lone_go (by simp [stepG,stepG.exec,Frame.atR])
theorem aSe{F:Fence}{n:Nat}{c:Code}{Q:Exit→Act→World→Prop}{a:Act}(h:c.wpIn F n P (fun e a w=>(∀ l,e ≠ .goto l)∧Q e a w) a w):(Code.scope c).wpIn F n P Q a w:=by
 intro b k cs hro hb hr;have h0:(lone (b.atR a (.code (.scope c)::k)) cs w).fenced P F:=fenced_calm hb hr rfl;obtain ⟨e,a₁,w₁,⟨hg,hq⟩,harr⟩:=h b (.inScope c::k) cs hro hb hr;cases e with
 | normal=>exact ⟨.normal,a₁,w₁,hq,.head h0 kD (StepsIn.trans harr (.one (fenced_calm hb hr rfl) aGn))⟩
 | exit id =>
  have hx:exitTo id (.inScope c::k)=exitTo id k:=by simp [exitTo]
  exact ⟨.exit id,a₁,w₁,hq,fun k' hk => .head h0 kD (harr.1 k' (by rw [hx];exact hk)),
   fun G6 hk=>let ⟨k₁,h1,h2⟩:=harr.2 G6 (by rw [hx];exact hk);⟨k₁,h1,.head h0 kD h2⟩⟩
 | goto l=>exact absurd rfl (hg l)
 | ret=>exact ⟨_,a₁,w₁,hq,.of_steps (.one h0 kD) harr⟩
 | panic ch=>exact ⟨_,a₁,w₁,hq,.of_steps (.one h0 kD) harr⟩
 | outgrown=>exact ⟨_,a₁,w₁,hq,.of_steps (.one h0 kD) harr⟩

def LoopIn(F:Fence)(n:Nat)(P:Program)(c:Code)(Q:Exit→Act→World→Prop)(a:Act)(w:World):Prop :=
 ∀ (b:Frame) (k:List Item) (cs:List Frame),b.roundOf=F.round→F.fn b.fn→F.room (cs.length+1+n) →
  ∃ e a' w',Q e a' w'∧ArrivesIn (Machine.fenced P F) P (lone (b.atR a (.code c :: .inLoop c::k)) cs w) b k cs e a' w'

theorem LoopIn.step{F:Fence}{n:Nat}{c:Code}{Q:Exit→Act→World→Prop}{a:Act}(h:c.wpIn F n P (Exit.then (LoopIn F n P c Q) Q) a w):LoopIn F n P c Q a w:=by
 intro b k cs hro hb hr;obtain ⟨e,a₁,w₁,hq,harr⟩:=h b (.inLoop c::k) cs hro hb hr;cases e with
 | normal =>
  obtain ⟨e₂,a₂,w₂,hq₂,harr₂⟩:=hq b k cs hro hb hr;exact ⟨e₂,a₂,w₂,hq₂,.of_steps (StepsIn.trans harr (.one (fenced_calm hb hr rfl) stepR_inLoop)) harr₂⟩
 | exit id=>exact ⟨_,a₁,w₁,hq,.pass (x := .inLoop c) rfl (fun _ _ => .inl (by simp)) harr⟩
 | goto l=>exact ⟨_,a₁,w₁,hq,.pass (x := .inLoop c) rfl (fun _ _ => .inl (by simp)) harr⟩
 | ret=>exact ⟨_,a₁,w₁,hq,.pass (x := .inLoop c) rfl (fun _ _ => .inl (by simp)) harr⟩
 | panic ch=>exact ⟨_,a₁,w₁,hq,.pass (x := .inLoop c) rfl (fun _ _ => .inl (by simp)) harr⟩
 | outgrown=>exact ⟨_,a₁,w₁,hq,.pass (x := .inLoop c) rfl (fun _ _ => .inl (by simp)) harr⟩
theorem LoopIn.wp{F:Fence}{n:Nat}{c:Code}{Q:Exit→Act→World→Prop}{a:Act}(h:LoopIn F n P c Q a w):(Code.loop c).wpIn F n P Q a w:=by
 intro b k cs hro hb hr;obtain ⟨e,a',w',hq,harr⟩:=h b k cs hro hb hr;exact ⟨e,a',w',hq,.of_steps (.one (fenced_calm hb hr rfl) stepR_loop) harr⟩
end
section
variable {P:Program} {T:TT} {E:Env} {C C0:Cx} {M M0:Mem} {w w0:World}

theorem bBk{ops:Array Oper}{d:Bool}{st:St}:cJ (aNw P T E ops d st):=by
 unfold aNw;split
 ·exact uP
 ·exact aL fun _=>bG qC fun _=>aL fun _=>aM _
theorem vZ{b:St→Ask (Ex × St)}(h:∀ st,cJ (b st)):∀ (n:Nat) (st:St),cJ (aHm b n st)
 | 0,_=>aW
 | n+1,st=>by
  unfold aHm;refine bG (h st) fun r => ?_
  split
  ·exact vZ h n _
  ·exact aM _
theorem uI{k fuel:Nat}:∀ (c:Code) (st:St),cJ (aBq P T E k fuel c st):=by
 intro c
 induction c with
 | skip=>exact fun st=>aM _
 | region id ops d=>exact nE fun st=>bG bBk fun _=>aM _
 | seq a b iha ihb =>
  refine nE fun st => ?_
  refine bG (iha st) fun r => ?_
  split
  ·exact ihb _
  ·exact aM _
 | cond c a b iha ihb =>
  refine nE fun st => ?_
  refine aL fun _=>bG aSt fun _ => ?_
  split
  ·exact iha _
  ·exact ihb _
 | block id b ih =>
  refine nE fun st => ?_
  refine bG (ih st) fun r => ?_
  split
  ·split <;> exact aM _
  ·exact aM _
 | loop b ih=>exact nE fun st=>bBl (vZ ih _ _)
 | exit id=>exact fun st=>aM _
 | label l=>exact fun st=>aM _
 | scope b ih=>exact ih
 | ret=>exact fun st=>aM _
 | _=>exact nE fun st=>aW

theorem aAr{K:Nat}{c:Code}{b:St→Ask (Ex × St)}(hm:∀ st,cJ (b st))(h:∀ {st e Am s s'},b st s=some ((e,Am),s')→bC s'→aC P K c st e Am):∀ (n:Nat) {st:St} {e:Ex} {Am:St} {s s':AS},aHm b n st s=some ((e,Am),s')→bC s' →
  ∀ (C0:Cx) (M0:Mem) (w0:World) (a:Act) (w:World),M0.length≤K→Sim P C0 M0 w0 st a w→∀ (ro:Option Nat),mF ro c→∀ (k:Nat),LoopIn (Fen ro) k P c (fun e' a' w'=>e'=e.toExit∧e' ≠ .normal∧Sim P C0 M0 w0 Am a' w') a w
 | 0,st,e,Am,s,s',h0,_=>(aX h0).elim
 | n+1,st,e,Am,s,s',h0,g=>by
  intro C0 M0 w0 a w hK hs ro hro k;unfold aHm at h0
  obtain ⟨⟨e1,st1⟩,s1,h1,k1⟩:=aD h0;refine LoopIn.step ?_;cases e1 with
  | normal =>
   have g1:=(vZ hm n st1).good k1 g;have ih:=aAr hm h n k1 g C0 M0 w0;refine wpIn_mono (h h1 g1 C0 M0 w0 a w hK hs ro hro k) ?_;rintro e' a' w' ⟨rfl,Cl⟩;exact ih a' w' hK Cl ro hro k
  | ret =>
   obtain ⟨he,rfl⟩:=aK k1;cases he;refine wpIn_mono (h h1 g C0 M0 w0 a w hK hs ro hro k) ?_;rintro e' a' w' ⟨rfl,Cl⟩;exact ⟨rfl,nofun,Cl⟩
  | exit id =>
   obtain ⟨he,rfl⟩:=aK k1;cases he;refine wpIn_mono (h h1 g C0 M0 w0 a w hK hs ro hro k) ?_;rintro e' a' w' ⟨rfl,Cl⟩;exact ⟨rfl,nofun,Cl⟩

theorem aDa(hT:∀ t i,T t=some i→cN P t=some i)(hE:mR P E)(hm:P.follows .mixedOrders=true){k fuel:Nat}:∀ (c:Code) {st:St} {e:Ex} {Am:St} {s s':AS},aBq P T E k fuel c st s=some ((e,Am),s')→bC s'→aC P k c st e Am:=by
 intro c
 induction c with
 | skip =>
  intro st e Am s s' h g C0 M0 w0 a w hk hs ro hro n;obtain ⟨he,rfl⟩:=aK h;cases he;exact wpIn_skip ⟨rfl,hs⟩
 | region id ops d =>
  intro st e Am s s' h g;refine lG ?_ h g;intro st Am e s s' h g;obtain ⟨st1,s1,h1,k1⟩:=aD h;obtain ⟨he,rfl⟩:=aK k1;cases he;exact aSd hT hE hm h1 g
 | seq a b iha ihb =>
  intro st e Am s s' h g;refine lG ?_ h g;intro st Am e s s' h g C0 M0 w0 ac w hk hs ro hro n;obtain ⟨⟨e1,st1⟩,s1,h1,k1⟩:=aD h;refine wpIn_seq ?_;cases e1 with
  | normal =>
   have g1:=(uI b st1).good k1 g;refine wpIn_mono (iha h1 g1 C0 M0 w0 ac w hk hs ro hro.seq1 n) ?_;rintro e' a' w' ⟨rfl,Cl⟩;exact ihb k1 g C0 M0 w0 a' w' hk Cl ro hro.seq2 n
  | ret =>
   obtain ⟨he,rfl⟩:=aK k1;cases he;refine wpIn_mono (iha h1 g C0 M0 w0 ac w hk hs ro hro.seq1 n) ?_;rintro e' a' w' ⟨rfl,Cl⟩;exact ⟨rfl,Cl⟩
  | exit id =>
   obtain ⟨he,rfl⟩:=aK k1;cases he;refine wpIn_mono (iha h1 g C0 M0 w0 ac w hk hs ro hro.seq1 n) ?_;rintro e' a' w' ⟨rfl,Cl⟩;exact ⟨rfl,Cl⟩
 | cond c a b iha ihb =>
  intro st e Am s s' h g;refine lG ?_ h g;intro st Am e s s' h g C0 M0 w0 ac w hk hs ro hro n;obtain ⟨x,s1,h1,k1⟩:=aD h;obtain ⟨e1,rfl⟩:=aF h1;obtain ⟨d,s2,h2,k2⟩:=aD k1;have Nu:=hs;obtain ⟨C,hS,_⟩:=Nu;cases d with
  | true =>
   obtain ⟨hb,_⟩:=rJ (hS.ev e1) h2 ((uI a st).good k2 g);exact wpIn_cond_true hb (iha k2 g C0 M0 w0 ac w hk hs ro hro.cond1 n)
  | false =>
   obtain ⟨hb,_⟩:=rJ (hS.ev e1) h2 ((uI b st).good k2 g);exact wpIn_cond_false hb (ihb k2 g C0 M0 w0 ac w hk hs ro hro.cond2 n)
 | block id b ih =>
  intro st e Am s s' h g;refine lG ?_ h g;intro st Am e s s' h g C0 M0 w0 ac w hk hs ro hro n;obtain ⟨⟨e1,st1⟩,s1,h1,k1⟩:=aD h;refine wpIn_block ?_;cases e1 with
  | normal =>
   obtain ⟨he,rfl⟩:=aK k1;cases he;refine wpIn_mono (ih h1 g C0 M0 w0 ac w hk hs ro hro.block n) ?_;rintro e' a' w' ⟨rfl,Cl⟩;exact ⟨rfl,Cl⟩
  | ret =>
   obtain ⟨he,rfl⟩:=aK k1;cases he;refine wpIn_mono (ih h1 g C0 M0 w0 ac w hk hs ro hro.block n) ?_;rintro e' a' w' ⟨rfl,Cl⟩;exact ⟨rfl,Cl⟩
  | exit i =>
   dsimp only at k1
   cases hb:Nat.beq i id with
   | true =>
    rw [hb] at k1
    obtain ⟨he,rfl⟩:=aK k1;cases he;have hid:i=id:=Nat.eq_of_beq_eq_true hb;refine wpIn_mono (ih h1 g C0 M0 w0 ac w hk hs ro hro.block n) ?_;rintro e' a' w' ⟨rfl,Cl⟩;simp only [Ex.toExit,Exit.inBlock,hid,if_true];exact ⟨trivial,Cl⟩
   | false =>
    rw [hb] at k1
    obtain ⟨he,rfl⟩:=aK k1;cases he;have hid:i≠id:=Nat.ne_of_beq_eq_false hb;refine wpIn_mono (ih h1 g C0 M0 w0 ac w hk hs ro hro.block n) ?_;rintro e' a' w' ⟨rfl,Cl⟩;simp only [Ex.toExit,Exit.inBlock,hid,if_false];exact ⟨trivial,Cl⟩
 | loop b ih =>
  intro st e Am s s' h g;refine lG ?_ h g;intro st Am e s s' h g C0 M0 w0 ac w hk hs ro hro n;refine wpIn_mono (LoopIn.wp (aAr (uI b) ih fuel (bNg h) g C0 M0 w0 ac w hk hs ro hro.loop n)) ?_;rintro e' a' w' ⟨h1,_,h2⟩;exact ⟨h1,h2⟩
 | exit id =>
  intro st e Am s s' h g C0 M0 w0 a w hk hs ro hro n;obtain ⟨he,rfl⟩:=aK h;cases he;exact wpIn_exit ⟨rfl,hs⟩
 | label l =>
  intro st e Am s s' h g C0 M0 w0 a w hk hs ro hro n;obtain ⟨he,rfl⟩:=aK h;cases he;exact wpIn_label ⟨rfl,hs⟩
 | scope b ih =>
  intro st e Am s s' h g C0 M0 w0 a w hk hs ro hro n;refine aSe (wpIn_mono (ih h g C0 M0 w0 a w hk hs ro hro.scope n) ?_);rintro e' a' w' ⟨rfl,Cl⟩;exact ⟨fun l=>by cases e <;> simp [Ex.toExit],rfl,Cl⟩
 | ret =>
  intro st e Am s s' h g C0 M0 w0 a w hk hs ro hro n;obtain ⟨he,rfl⟩:=aK h;cases he;exact wpIn_ret ⟨rfl,hs⟩
 | _ =>
  intro st e Am s s' h g;refine lG ?_ h g;intro st Am e s s' h g;exact (aX h).elim
end
section
variable {P:Program} {T:TT} {E:Env} {C C0:Cx} {M M0:Mem} {w w0:World}

def cKj(T:TT)(st:St):ResultVar→Ask AV
 | .tmp t=>lift st.t[t]?
 | .cell a t=>do
  let x ← lift st.t[a]?
  vload T st.m t x
def aSa(T:TT)(st:St):List ResultVar→Ask (List AV)
 | []=>pure []
 | r::l=>do
  let x ← cKj T st r
  let xs ← aSa T st l
  pure (x::xs)
def bNe:List AV→AV
 | [x]=>x
 | l => .tup l

def aHj:Mem→Bool
 | []=>true
 | some (.pk _ _ _ _)::_=>false
 | _::r=>aHj r
theorem pZ:∀ {m:Mem},aHj m=true→aSp m
 | [],_,i,o,h=>by simp at h
 | none::r,hm,i,o,h=>by
  cases i with
  | zero=>simp at h
  | succ i=>exact pZ (m:=r) hm i o (by simpa using h)
 | some x::r,hm,i,o,h=>by
  cases i with
  | zero =>
   simp at h;subst h
   cases x with
   | pk=>simp [aHj] at hm
   | _=>rfl
  | succ i =>
   refine pZ (m:=r) ?_ i o (by simpa using h)
   cases x with
   | pk=>simp [aHj] at hm
   | _=>simpa [aHj] using hm
def aSb(P:Program)(T:TT)(E:Env)(fuel:Nat)(fn:Func)(c:Code)(args:List AV)(m:Mem):Ask (AV × Mem):=do
 lift (if aHj m=true then some () else none)
 let r ← aBq P T E m.length fuel c ⟨args++List.replicate (fn.ntmps-args.length) .any,m⟩
 match r.1 with
 | .exit _=>fail
 | _=>do
  let l ← aSa T r.2 fn.results.toList
  pure (bNe l,r.2.m)

def FMM(P:Program)(f:Nat)(args:List AV)(M:Mem)(r:AV)(M':Mem):Prop :=
 ∀ (C:Cx) (w:World) (us:List Value),dD C M w args us→aT P C M w→∀ n,CallsIn Fence.wide n P f us.toArray w (fun e w'=>∃ u,e = .returned u∧∃ C',Fr C M w C' M' w'∧aT P C' M' w'∧Rep C' M' w' r u)

def vY(P:Program)(f:Nat)(args:List AV)(M:Mem)(r:AV)(M':Mem):Prop :=
 ∀ (C:Cx) (w:World) (us:List Value),dD C M w args us→aT P C M w→∀ n,CallsIn Fence.wide n P f us.toArray w (fun e w'=>∃ u,e = .returned u∧∃ C',Fr C M w C' M' w'∧aT P C' M' w'∧Rep C' M' w' r u∧nM (C.with []) M M' C' w w')
theorem vY.fmm{f:Nat}{args:List AV}{M M':Mem}{r:AV}(h:vY P f args M r M'):FMM P f args M r M':=fun C w us hus hM n=>(h C w us hus hM n).mono fun _ w' ⟨u,q,C',h1,h2,h3,_⟩=>⟨u,q,C',h1,h2,h3⟩

theorem zB{st:St}:∀ (l:List ResultVar),cJ (aSa T st l)
 | []=>aM _
 | r::l=>by
  unfold aSa;refine bG ?_ fun _=>bG (zB l) fun _=>aM _
  cases r with
  | tmp t=>exact nH _
  | cell a t=>exact aL fun _=>aDq

def aCy(tmps:Array Value):ResultVar→Sem Value
 | .tmp t=>pure (tmps.getD t undef)
 | .cell a t=>do loadVar t (← asAddr (tmps.getD a undef))

theorem bBj{t:Nat}{y x:AV}{u:Value}{s s':AS}(h:vload T M t y s=some (x,s'))(hy:Rep C M w y u):∃ p,u = .pointer (some p):=by
 unfold vload at h
 obtain ⟨i,s1,h1,k1⟩:=aD h
 split at k1
 ·rename_i id off
  obtain ⟨o,s2,h2,k2⟩:=aD k1;obtain ⟨e2,rfl⟩:=aF h2;have hl:o.live=true:=by
   cases o with
   | dead=>exact (aX k2).elim
   | _=>rfl
  obtain ⟨b,hu,_⟩:=iI hy (jV (eE e2) hl);exact ⟨_,hu⟩
 ·cases hy;exact ⟨_,rfl⟩
 ·exact (aX k1).elim

theorem aSc(hT:∀ t i,T t=some i→cN P t=some i)(hM:aT P C M w){ts:List AV}{us:Array Value}(hS:eI C M w ts us){r:ResultVar}{x:AV}{s s':AS}(h:cKj T ⟨ts,M⟩ r s=some (x,s'))(g:bC s') :
  ∃ u,(aCy us r).run P w = .ok u w∧Rep C M w x u:=by
 cases r with
 | tmp t =>
  obtain ⟨e1,rfl⟩:=aF h;exact ⟨_,rfl,hS.at e1⟩
 | cell a t =>
  obtain ⟨y,s1,h1,k1⟩:=aD h;obtain ⟨e1,rfl⟩:=aF h1;obtain ⟨_,u,h2,h3⟩:=aBd hT hM (hS.at e1) k1 g
  refine ⟨u,?_,h3⟩;obtain ⟨p,hp⟩:=bBj k1 (hS.at e1)
  unfold Instr.loadAt at h2
  simp only [aCy];rw [hp] at h2 ⊢
  exact h2

theorem aCz(hT:∀ t i,T t=some i→cN P t=some i)(hM:aT P C M w){ts:List AV}{us:Array Value}(hS:eI C M w ts us):∀ (l:List ResultVar) {xs:List AV} {s s':AS},aSa T ⟨ts,M⟩ l s=some (xs,s')→bC s' →
  ∃ vs:List Value,(l.mapM (aCy us)).run P w = .ok vs w∧dD C M w xs vs
 | [],xs,s,s',h,g=>by
  obtain ⟨rfl,rfl⟩:=aK h;exact ⟨[],rfl,.nil⟩
 | r::l,xs,s,s',h,g=>by
  obtain ⟨x,s1,h1,k1⟩:=aD h;obtain ⟨ys,s2,h2,k2⟩:=aD k1;obtain ⟨rfl,rfl⟩:=aK k2;obtain ⟨u,e1,r1⟩:=aSc hT hM hS h1 ((zB l).good h2 g);obtain ⟨vs,e2,r2⟩:=aCz hT hM hS l h2 g;refine ⟨u::vs,?_,.cons _ _ _ _ r1 r2⟩;rw [List.mapM_cons,Sem.run_bind,e1,Result.andThen_ok,Sem.run_bind,e2,Result.andThen_ok,Sem.run_pure]

theorem aNv{fn:Func}{us:Array Value}{vs:List Value}(h:(fn.results.toList.mapM (aCy us)).run P w = .ok vs w):(results fn us).run P w = .ok (if _:vs.length=1 then vs[0] else .tuple vs.toArray) w:=by
 have e:(results fn us)=(do let vs ← fn.results.mapM (aCy us);pure (if h:vs.size=1 then vs[0] else .tuple vs)):=by
  unfold results
  congr 1
 rw [e,Sem.run_bind,Array.mapM_eq_mapM_toList,Sem.run_map,h,Result.andThen_ok,Result.andThen_ok,Sem.run_pure]
 congr 1

theorem bTo{xs:List AV}{vs:List Value}(h:dD C M w xs vs):Rep C M w (bNe xs) (if _:vs.length=1 then vs[0] else .tuple vs.toArray):=by
 have hl:=h.len;cases h with
 | nil=>exact .tup [] _ rfl (fun i h=>by simp at h)
 | cons x u l k hx hr =>
  cases hr with
  | nil=>exact hx
  | cons y v l k hy hr =>
   have hne:¬ (u::v::k).length=1:=by simp
   rw [dif_neg hne];refine .tup _ _ (by simpa using hl) (fun i hi => ?_)
   have:=(dD.cons x u _ _ hx (dD.cons y v l k hy hr)).at i hi
   rwa [← cF] at this

theorem Sim.take{st:St}{a:Act}{d:Deferred}{ds:List Deferred}(h:Sim P C0 M0 w0 st a w)(hd:a.defers=d::ds):∃ D,d=mark D∧w.heap[D]? = some (.deferred (some []))∧Sim P C0 M0 w0 st { a with defers:=ds } (w.putObj D (.deferred none)):=by
 obtain ⟨C,hS,hM,hF,⟨l,h1,h2,h3⟩,hR,hP⟩:=h;rw [hd] at h1
 cases l with
 | nil=>simp at h1
 | cons D l =>
  rw [fZ,List.cons.injEq] at h1
  obtain ⟨rfl,rfl⟩:=h1;obtain ⟨q1,q2,q3⟩:=h3 D (by simp)
  obtain ⟨hnd,Ro⟩:=List.nodup_cons.1 h2;have hg:=grownBy_putObj' w D (.deferred none);have hsz:(w.putObj D (.deferred none)).heap.size=w.heap.size:=by simp [World.putObj]
  have hk:∀ b,b≠D→(w.putObj D (.deferred none)).heap[b]? = w.heap[b]? := fun b hb=>by
   rcases Nat.lt_or_ge b w.heap.size with h | h
   ·exact hg.block b h (by simpa using hb)
   ·rw [Array.getElem?_eq_none h,Array.getElem?_eq_none (by omega)]
  have hlive:∀ (id:Nat) (o:AO) (b:Nat),st.m[id]? = some (some o)→o.live=true→C.ι id=some b→b≠D:=fun id o b ho hl hb e=>by
   subst e;exact aOi hM hP ho hl hb q1
  have hL:Le C C st.m st.m w (w.putObj D (.deferred none)):=⟨fun _ o h=>⟨o,h⟩,fun _ _ _ _ _ cs h=>⟨cs,h⟩,fun _ o h o' h' hl=>by rw [h] at h';cases h';exact ⟨hl,rfl,rfl⟩,fun _ h=>h,fun b hb=>hk b fun e=>q3 (e ▸ hb)⟩
  refine ⟨D,rfl,q1,C,hS.le hL,⟨fun i Dh n cs hm => ?_,fun i Dh cs hm => ?_,fun i es cl hm => ?_,hM.inj,hM.nF,fun b hb=>by rw [hsz];exact hM.Fs b hb,fun i x b hm hl hb=>by rw [hsz];exact hM.lt i x b hm hl hb⟩,
   ⟨hg.os.trans hF.os,hg.tape.trans hF.tape,hg.output.trans hF.out,fB hF.size hg.size,fun b hb hn=>(hk b (by omega)).trans (hF.keep b hb hn),hF.ids,hF.row,hF.liv,hF.new,hF.F1,hF.F2⟩,⟨l,rfl,Ro,fun D' Kt => ?_⟩,fun p hp => ?_,fun i to ti sz L hm => ?_,hP.2⟩
  ·rcases hM.row _ _ _ _ hm with h4 | ⟨b,arr,inf,q0,Ku,Kv,Ls,q4,q5,q6,q7,q8⟩
   ·exact .inl h4
   ·exact .inr ⟨b,arr,inf,q0,by rw [hk b (hlive _ _ _ hm rfl q0)];exact Ku,Kv,Ls,q4,q5,q6,fun j hj=>(q7 j hj).mono hL.F hL.fz,q8⟩
  ·obtain ⟨b,arr,q0,Ku,Kv,Ls,q4⟩:=hM.box _ _ _ hm
   exact ⟨b,arr,q0,by rw [hk b (hlive _ _ _ hm rfl q0)];exact Ku,Kv,fun j hj=>(Ls j hj).mono hL,q4⟩
  ·obtain ⟨b,arr,q0,Ku,Kv,Ls⟩:=hM.mp _ _ _ hm
   refine ⟨b,arr,q0,by rw [hk b (hlive _ _ _ hm rfl q0)];exact Ku,Kv,fun j hj => ?_⟩
   obtain ⟨en,r1,r2,r3,r4⟩:=Ls j hj;exact ⟨en,r1,r2,r3,r4.mono hL.F hL.fz⟩
  ·obtain ⟨r1,r2,r3⟩:=h3 D' (Cj _ Kt)
   exact ⟨by rw [hk D' (fun e=>hnd (e ▸ Kt))];exact r1,r2,r3⟩
  ·obtain ⟨r1,r2,r3,r4,r5⟩:=hR p hp
   exact ⟨by rw [hk p.1 (fun e=>r3 (by rw [e,q1] at r1;exact (Option.some.inj r1).symm))];exact r1,r2,r3,r4,r5⟩
  ·obtain ⟨p,p0,p1⟩:=hP.1 _ _ _ _ _ hm
   exact ⟨p.move p.io rfl (fun _ h=>h) hL.fz fun b hb=>⟨hk b (fun e=>by
    obtain ⟨_,arr,ty,r1⟩:=p.lt hb;rw [e,q1] at r1;cases r1),p.own b hb⟩,p0,p1⟩

theorem aAq(hT:∀ t i,T t=some i→cN P t=some i)(hE:mR P E)(hm:P.follows .mixedOrders=true){fuel f:Nat}{fn:Func}{c:Code}(hf:P.funcs[f]? = some fn)(hb:fn.body=some c){args:List AV}{r:AV}{M':Mem}{s s':AS}
  (h:aSb P T E fuel fn c args M s=some ((r,M'),s')) (g:bC s'):vY P f args M r M':=by
 intro C w us hus hM n;unfold aSb at h
 obtain ⟨_,s0,h0,k0⟩:=aD h;obtain ⟨e0,rfl⟩:=aF h0;have hnp:=pZ (bU e0).1;obtain ⟨⟨e,st⟩,s1,h1,k1⟩:=aD k0;have hlen:=hus.len;have hS:eI C M w (args++List.replicate (fn.ntmps-args.length) .any) (us.toArray++Array.replicate (fn.ntmps-us.toArray.size) undef):=by
  refine ⟨by simp [hlen],fun i hi => ?_⟩
  by_cases c1:i<args.length
  ·rw [aBv c1,B4,Array.getElem?_append_left (by simp;omega)]
   have:=hus.at i c1
   rwa [← cF,B4] at this
  ·rw [aPl (by omega),List.getElem_replicate]
   exact .any _
 have hsim:Sim P (C.with []) M w ⟨args++List.replicate (fn.ntmps-args.length) .any,M⟩ { tmps:=us.toArray++Array.replicate (fn.ntmps-us.toArray.size) undef,defers:=[] } w:=⟨C,hS,hM,(Fr.refl ..).based [],.nil rfl hnp⟩
 refine callsIn_of_wp_marks hf hb trivial ?_;have fin:∀ (e':Exit) (a':Act) (w':World),(e' = .normal∨e' = .ret)→Sim P (C.with []) M w st a' w'→(∃ l s2,aSa T st fn.results.toList s1=some (l,s2)∧bC s2∧r=bNe l∧M'=st.m)→bodyPostM Fence.wide n P fn (fun e w'=>∃ u,e = .returned u∧∃ C',Fr C M w C' M' w'∧aT P C' M' w'∧Rep C' M' w' r u∧nM (C.with []) M M' C' w w') e' a' w':=by
  rintro e' a' w' he Cl ⟨l,s2,h2,g2,rfl,rfl⟩;have key:∀ (ds:List Deferred) (a':Act) (w':World),a'.defers=ds→Sim P (C.with []) M w st a' w'→LeavesInM Fence.wide n P fn a'.tmps (fun e w'=>∃ u,e = .returned u∧∃ C',Fr C M w C' st.m w'∧aT P C' st.m w'∧Rep C' st.m w' (bNe l) u∧nM (C.with []) M st.m C' w w') ds .returning w':=by
   intro ds
   induction ds with
   | nil =>
    rintro a' w' hd ⟨C',Vm,G2,Q2,_,_,Vn⟩;obtain ⟨ts,m⟩:=st;obtain ⟨vs,e2,r2⟩:=aCz hT G2 Vm fn.results.toList h2 g2;exact ⟨_,aNv e2,_,rfl,C',Q2.unbased,G2,bTo r2,Vn⟩
   | cons d ds ih =>
    intro a' w' hd Cl;obtain ⟨D,rfl,hD,Nt⟩:=Cl.take hd;exact ⟨by simp,.inl ⟨_,_,rfl,run_takeDeferred hD,ih { a' with defers:=ds } _ rfl Nt⟩⟩
  rcases he with rfl | rfl
  ·exact key _ a' w' rfl Cl
  ·exact key _ a' w' rfl Cl
 have out:(e = .normal∨e = .ret)∧∃ l s2,aSa T st fn.results.toList s1=some (l,s2)∧bC s2∧r=bNe l∧M'=st.m:=by
  cases e with
  | exit id=>exact (aX k1).elim
  | normal =>
   obtain ⟨l,s2,h2,k2⟩:=aD k1;obtain ⟨he,rfl⟩:=aK k2;cases he;exact ⟨.inl rfl,l,_,h2,g,rfl,rfl⟩
  | ret =>
   obtain ⟨l,s2,h2,k2⟩:=aD k1;obtain ⟨he,rfl⟩:=aK k2;cases he;exact ⟨.inr rfl,l,_,h2,g,rfl,rfl⟩
 obtain ⟨he,l,s2,h2,g2,e3,e4⟩:=out;have g1:=(zB _).good h2 g2;refine wpIn_mono (aDa hT hE hm c h1 g1 (C.with []) M w _ w (dG _) hsim none (.inl rfl) n) ?_
 rintro e' a' w' ⟨rfl,Cl⟩;exact fin _ a' w' (by rcases he with rfl | rfl <;> simp [Ex.toExit]) Cl ⟨l,s2,h2,g2,e3,e4⟩
end
section
variable {P:Program} {T:TT} {E:Env} {C C0:Cx} {M M0:Mem} {w w0:World}

mutual
def aNu:PV→Bool
 | .v _=>true
 | .sl _ cs=>match cs with
  | []=>true
  | _=>false
 | .agg cs=>aHi cs
 | .mp _=>false
 | .rp _ _=>false
def aHi:List PV→Bool
 | []=>true
 | x::r=>match aNu x with
  | true=>aHi r
  | false=>false
end
mutual
def rig:AV→Bool
 | .p x=>aNu x
 | .kb _=>true
 | .any=>true
 | .yld _=>true
 | .agg cs=>aRz cs
 | .fn _ a b=>match aRz a with
  | true=>aRz b
  | false=>false
 | _=>false
def aRz:List AV→Bool
 | []=>true
 | x::r=>match rig x with
  | true=>aRz r
  | false=>false
end
mutual
def noRef:AV→Bool
 | .p _=>true
 | .kb _=>true
 | .any=>true
 | .yld _=>true
 | .rp _ _=>true
 | .agg cs=>kL cs
 | .fn _ a b=>match kL a with
  | true=>kL b
  | false=>false
 | _=>false
def kL:List AV→Bool
 | []=>true
 | x::r=>match noRef x with
  | true=>kL r
  | false=>false
end

theorem aCx:∀ {l:List PV},aHi l=true→∀ i (h:i<l.length),aNu l[i]=true
 | [],_,i,h=>by simp at h
 | x::r,hr,i,h=>by
  unfold aHi at hr
  split at hr
  ·cases i with
   | zero=>assumption
   | succ i=>exact aCx hr i (by simpa using h)
  ·cases hr
theorem aCf:∀ {l:List AV},aRz l=true→∀ i (h:i<l.length),rig l[i]=true
 | [],_,i,h=>by simp at h
 | x::r,hr,i,h=>by
  unfold aRz at hr
  split at hr
  ·cases i with
   | zero=>assumption
   | succ i=>exact aCf hr i (by simpa using h)
  ·cases hr
theorem pY:∀ {l:List AV},kL l=true→∀ i (h:i<l.length),noRef l[i]=true
 | [],_,i,h=>by simp at h
 | x::r,hr,i,h=>by
  unfold kL at hr
  split at hr
  ·cases i with
   | zero=>assumption
   | succ i=>exact pY hr i (by simpa using h)
  ·cases hr

theorem cM.rig{F G:Nat→Prop}{w w':World}{x:PV}{u:Value}(h:cM F w x u)(hr:aNu x=true):cM G w' x u:=by
 induction h with
 | v x=>exact .v x
 | sl n cs p cap us h1 h2 h3 _ h5 ih =>
  cases cs with
  | nil=>exact .sl n [] p cap us h1 h2 (fun i h=>by simp at h) (fun i h=>by simp at h) (fun i h=>by simp at h)
  | cons=>simp [aNu] at hr
 | agg cs vs h0 h1 _ ih =>
  have G6:aHi cs=true:=by simpa [aNu] using hr
  exact .agg cs vs h0 h1 fun i hi=>ih i hi (aCx G6 i hi)
 | mp=>simp [aNu] at hr
 | rp=>simp [aNu] at hr

theorem Rep.rig{C C':Cx}{M M':Mem}{w w':World}{x:AV}{u:Value}(h:Rep C M w x u)(hr:rig x=true):Rep C' M' w' x u:=by
 induction h with
 | p x u h=>exact .p x u (h.rig (by simpa [KV.rig] using hr))
 | any u=>exact .any u
 | kb b=>exact .kb b
 | yld l=>exact .yld l
 | agg cs vs h0 h1 _ ih =>
  have G6:aRz cs=true:=by simpa [KV.rig] using hr
  exact .agg cs vs h0 h1 fun i hi=>ih i hi (aCf G6 i hi)
 | fn f cs ds us vs h1 h2 _ _ I8 Hw =>
  simp only [KV.rig] at hr
  split at hr
  ·rename_i Hv
   exact .fn f cs ds us vs h1 h2 (fun i hi=>I8 i hi (aCf Hv i hi)) (fun i hi=>Hw i hi (aCf hr i hi))
  ·cases hr
 | _=>simp [KV.rig] at hr

theorem Rep.noRef{C C':Cx}{M M':Mem}{w w':World}{x:AV}{u:Value}(h:Rep C M w x u)(hr:noRef x=true)(hF:∀ b,C.F b→C'.F b)(hz:∀ b,C.F b→w'.heap[b]? = w.heap[b]?):Rep C' M' w' x u:=by
 induction h with
 | p x u h=>exact .p x u (h.mono hF hz)
 | any u=>exact .any u
 | kb b=>exact .kb b
 | yld l=>exact .yld l
 | rp cs off b o us h1 h2 h3=>exact .rp cs off b o us (fun i hi=>⟨hF _ (h1 i hi).1,(eT (hz _ (h1 i hi).1) _).trans (h1 i hi).2⟩) (fun i hi=>(h2 i hi).mono hF hz) h3
 | agg cs vs h0 h1 _ ih =>
  have G6:kL cs=true:=by simpa [KV.noRef] using hr
  exact .agg cs vs h0 h1 fun i hi=>ih i hi (pY G6 i hi)
 | fn f cs ds us vs h1 h2 _ _ I8 Hw =>
  simp only [KV.noRef] at hr
  split at hr
  ·rename_i Hv
   exact .fn f cs ds us vs h1 h2 (fun i hi=>I8 i hi (pY Hv i hi)) (fun i hi=>Hw i hi (pY hr i hi))
  ·cases hr
 | _=>simp [KV.noRef] at hr

def Cx.bare(C:Cx)(G:Nat→Prop):Cx:={ ι:=fun _=>none,κ:=C.κ,F:=G }

section
variable {G:Nat→Prop} (hM:aT P C M w) (hG:∀ b,C.F b→G b) (hO:∀ (id:Nat) (o:AO) (b:Nat),M[id]? = some (some o)→o.live=true→C.ι id=some b→G b)
include hM hG hO

theorem aAo{x:AV}{u:Value}{y:PV}(h:Rep C M w x u)(hv:Fb M x=some y):cM G w y u:=by
 unfold Fb at hv
 split at hv
 ·cases hv;cases h with | p _ _ h=>exact h.mono hG (fun _ _=>rfl)
 ·cases hv;cases h;exact .v _
 ·split at hv
  ·rename_i id _ r hr
   cases hv;have ho:=dI hr;refine (wJ hM ho h).mono (fun b hb => ?_) (fun _ _=>rfl)
   rcases hb with hb | ⟨_,hb⟩
   ·exact hG b hb
   ·exact hO _ _ b ho rfl hb
  ·cases hv
 ·cases hv

theorem aAp:∀ {l:List AV} {us:Nat→Value} {ys:List PV},(∀ i (h:i<l.length),Rep C M w l[i] (us i))→aDt M l=some ys→ys.length=l.length∧∀ i (h:i<ys.length),cM G w ys[i] (us i)
 | [],_,ys,_,hv=>by cases hv;exact ⟨rfl,fun i h=>by simp at h⟩
 | x::r,us,ys,h,hv=>by
  unfold aDt at hv
  split at hv
  ·rename_i y h1
   split at hv
   ·rename_i l h2
    cases hv;obtain ⟨q1,q2⟩:=aAp (us:=fun i=>us (i+1)) (fun i hi=>h (i+1) (by simpa using hi)) h2
    refine ⟨by simp [q1],fun i hi => ?_⟩
    cases i with
    | zero=>exact aAo hM hG hO (h 0 (by simp)) h1
    | succ i=>exact q2 i (by simpa using hi)
   ·cases hv
  ·cases hv

set_option linter.unusedSectionVars false in
mutual
theorem vX:∀ {x:AV} {u:Value} {y:AV},Rep C M w x u→view M x=some y→Rep (C.bare G) [] w y u
 | .p x,u,y,h,hv=>by
  simp only [view] at hv
  cases hv;cases h with | p _ _ h=>exact .p _ _ (h.mono hG (fun _ _=>rfl))
 | .kb b,u,y,h,hv=>by simp only [view] at hv;cases hv;cases h;exact .kb _
 | .any,u,y,h,hv=>by simp only [view] at hv;cases hv;exact .any _
 | .yld l,u,y,h,hv=>by simp only [view] at hv;cases hv;cases h;exact .yld _
 | .own id,u,y,h,hv=>by
  simp only [view] at hv
  split at hv
  ·rename_i r hr
   cases hv;exact .p _ _ (aAo hM hG hO h (by simp only [Fb,hr]))
  ·cases hv
 | .rp cs off,u,y,h,hv=>by
  simp only [view] at hv
  cases hv;cases h with
  | rp _ _ b o us h1 h2 h3=>exact .rp cs off b o us (fun i hi=>⟨hG _ (h1 i hi).1,(h1 i hi).2⟩) (fun i hi=>(h2 i hi).mono hG (fun _ _=>rfl)) h3
 | .ptr id off,u,y,h,hv=>by
  simp only [view] at hv
  split at hv
  ·rename_i ty n cs ho
   cases hv;have ho:=eE ho;obtain ⟨b,rfl,hb⟩:=iI h (jV ho rfl)
   rcases hM.row _ _ _ _ ho with ⟨hn,_⟩ | ⟨b',arr,inf,A1,q1,q2,q3,q4,q5,q6,q7,q8⟩
   ·rw [hb] at hn;cases hn
   ·rw [hb] at A1;cases A1
    have hle:cs.length≤arr.size:=by rw [q3,q4];exact Nat.mul_le_mul_right _ q5
    have:=Rep.rp (C:=C.bare G) (M:=[]) (w:=w) cs off b 0 (fun j=>arr.getD j undef) (fun i hi=>⟨hO _ _ b ho rfl hb,by rw [gU];exact cA q1 (by omega)⟩) (fun i hi=>(q7 i hi).mono hG (fun _ _=>rfl)) q8
    rwa [gU] at this
  ·rename_i ty cs ho
   have ho:=eE ho
   split at hv
   ·rename_i xs hx
    cases hv;obtain ⟨b,rfl,hb⟩:=iI h (jV ho rfl);obtain ⟨b',arr,A1,q1,q2,q3,q4⟩:=hM.box _ _ _ ho;rw [hb] at A1;cases A1
    obtain ⟨r1,r2⟩:=aAp hM hG hO (us:=fun j=>arr.getD j undef) q3 hx
    have:=Rep.rp (C:=C.bare G) (M:=[]) (w:=w) xs off b 0 (fun j=>arr.getD j undef) (fun i hi=>⟨hO _ _ b ho rfl hb,by rw [gU];exact cA q1 (by omega)⟩) r2 (fun i hi=>q4 i (by omega))
    rwa [gU] at this
   ·cases hv
  ·cases hv
 | .agg cs,u,y,h,hv=>by
  simp only [view] at hv
  split at hv
  ·rename_i xs hx
   cases hv;cases h with
   | agg _ vs h0 h1 h2 =>
    obtain ⟨q1,q2⟩:=lX (us:=fun i=>vs.getD i undef) h2 hx
    exact lY (fun i hi=>h0 i (by omega)) (by omega) q2
  ·cases hv
 | .fn f a b,u,y,h,hv=>by
  simp only [view] at hv
  split at hv
  ·rename_i a' ha
   split at hv
   ·rename_i b' hb
    cases hv;cases h with
    | fn _ _ _ us vs h1 h2 h3 h4 =>
     obtain ⟨q1,q2⟩:=lX (us:=fun i=>us.getD i undef) h3 ha
     obtain ⟨r1,r2⟩:=lX (us:=fun i=>vs.getD i undef) h4 hb
     exact .fn f a' b' us vs (by omega) (by omega) q2 r2
   ·cases hv
  ·cases hv
 | .arr id off n,u,y,h,hv=>by
  simp only [view] at hv
  split at hv
  ·rename_i r hr
   cases hv;have ho:=dI hr;cases h with
   | arr _ _ _ u h0 ha hrow =>
    rcases hrow _ ho rfl with ⟨rfl,p,cap,rfl,hc⟩ | ⟨b,cap,rfl,hn,hc,hb⟩
    ·rw [Nat.zero_mul,List.take_zero]
     exact .p _ _ (.sl 0 [] p cap (fun _=>undef) (Nat.zero_le _) hc (fun i h=>by simp at h) (fun i h=>by simp at h) (fun i h=>by simp at h))
    ·rcases hM.row _ _ _ _ ho with ⟨Fe,_⟩ | ⟨b',arr,inf,A1,q1,q2,q3,q4,q5,q6,q7,q8⟩
     ·rw [hb] at Fe;cases Fe
     ·rw [hb] at A1;cases A1
      have hle:r.2.2.length≤arr.size:=by rw [q3,q4];exact Nat.mul_le_mul_right _ q5
      have hlt:∀ i,i<((r.2.2.drop off).take (n*(r.2.2.length / r.2.1))).length→off+i<r.2.2.length:=fun i hi=>by simp at hi;omega
      refine .p _ _ (.sl n _ _ cap (fun j=>arr.getD (off+j) undef) hn hc (fun i hi=>⟨b,off,rfl,hO _ _ b ho rfl hb,cA q1 (by have:=hlt i hi;omega)⟩) (fun i hi => ?_) (fun i hi=>q8 _ (hlt i hi)))
      simp only [List.getElem_take,List.getElem_drop];exact (q7 _ (hlt i hi)).mono hG (fun _ _=>rfl)
  ·cases hv
 | .tup _,_,_,_,hv=>by simp [view] at hv
 | .mp _,_,_,_,hv=>by simp [view] at hv
 | .pa _ _,_,_,_,hv=>by simp [view] at hv
theorem lX:∀ {l:List AV} {us:Nat→Value} {ys:List AV},(∀ i (h:i<l.length),Rep C M w l[i] (us i))→oJ M l=some ys→ys.length=l.length∧∀ i (h:i<ys.length),Rep (C.bare G) [] w ys[i] (us i)
 | [],_,ys,_,hv=>by simp only [oJ] at hv;cases hv;exact ⟨rfl,fun i h=>by simp at h⟩
 | x::r,us,ys,h,hv=>by
  simp only [oJ] at hv
  split at hv
  ·rename_i y h1
   split at hv
   ·rename_i l h2
    cases hv;obtain ⟨q1,q2⟩:=lX (us:=fun i=>us (i+1)) (fun i hi=>h (i+1) (by simpa using hi)) h2
    refine ⟨by simp [q1],fun i hi => ?_⟩
    cases i with
    | zero=>exact vX (h 0 (by simp)) h1
    | succ i=>exact q2 i (by simpa using hi)
   ·cases hv
  ·cases hv
end
end
end
section
variable {P:Program} {T:TT} {E:Env} {C C':Cx} {M M1:Mem} {w w':World}

def Cx.after(C:Cx)(w w':World)(kb:Option Nat):Cx:={ ι:=C.ι,κ:=C.κ,F:=fun b=>C.F b∨(w.heap.size≤b∧b<w'.heap.size∧kb≠some b) }

theorem aNt(hM:aT P C M w){kb:Option Nat}(ho:w'.os=w.os)(ht:w'.tape=w.tape)(hu:w'.output=w.output)(hs:w.heap.size≤w'.heap.size)(hk:∀ b,b<w.heap.size→w'.heap[b]? = w.heap[b]?):Fr C M w (C.after w w' kb) M w'∧aT P (C.after w w' kb) M w':=by
 have hf:Fr C M w (C.after w w' kb) M w':=⟨ho,ht,hu,hs,fun b hb _=>hk b hb,fun _ x h=>⟨⟨x,h⟩,rfl,rfl⟩,fun _ _ _ _ _ cs h=>⟨cs,h⟩,fun _ o h o' h' hl=>by rw [h] at h';cases h';exact hl,
  fun i x _ h hl hb => .inr ⟨i,x,h,hl,hb⟩,fun _ h => .inl h,fun b h=>by rcases h with h | ⟨h,_⟩;exact .inl h;exact .inr (.inl h)⟩
 have hL:=hM.le hf;refine ⟨hf,fun i Dh n cs hm => ?_,fun i Dh cs hm => ?_,fun i es cl hm => ?_,hM.inj,fun i x b hm hl hb => ?_,fun b hb => ?_,fun i x b hm hl hb=>fY (hM.lt i x b hm hl hb) hs⟩
 ·rcases hM.row _ _ _ _ hm with h4 | ⟨b,arr,inf,q0,q1,q2,q3,q4,q5,q6,q7,q8⟩
  ·exact .inl h4
  ·exact .inr ⟨b,arr,inf,q0,(hk b (hM.lt _ _ _ hm rfl q0)).trans q1,q2,q3,q4,q5,q6,fun j hj=>(q7 j hj).mono hL.F hL.fz,q8⟩
 ·obtain ⟨b,arr,q0,q1,q2,q3,q4⟩:=hM.box _ _ _ hm
  exact ⟨b,arr,q0,(hk b (hM.lt _ _ _ hm rfl q0)).trans q1,q2,fun j hj=>(q3 j hj).mono hL,q4⟩
 ·obtain ⟨b,arr,q0,q1,q2,q3⟩:=hM.mp _ _ _ hm
  refine ⟨b,arr,q0,(hk b (hM.lt _ _ _ hm rfl q0)).trans q1,q2,fun j hj => ?_⟩
  obtain ⟨en,r1,r2,r3,r4⟩:=q3 j hj;exact ⟨en,r1,r2,r3,r4.mono hL.F hL.fz⟩
 ·rintro (h | ⟨h,_⟩)
  ·exact hM.nF i x b hm hl hb h
  ·have:=hM.lt i x b hm hl hb
   omega
 ·rcases hb with h | ⟨_,h,_⟩
  ·exact fY (hM.Fs b h) hs
  ·exact h

theorem bNd{C1:Cx}(hM:aT P C1 M w'){base b k ty n:Nat}{cs:List PV}(hf:aBt M base)(hnF:¬ C1.F b)(hold:∀ (i:Nat) (x:AO) (j:Nat),M[i]? = some (some x)→x.live=true→C1.ι i=some j→j<b)(hb:b<w'.heap.size)
  (hrow:∃ arr i,w'.heap[b]? = some (.cells arr ty (0,0))∧P.info? ty=some i∧arr.size=k*i.size∧cs.length=n*i.size∧n≤k∧k≤maxLen∧(∀ j (h:j<cs.length),cM C1.F w' cs[j] (arr.getD j undef))∧∀ j,j<cs.length→(arr.getD j undef).oneCell'=true) :
  aT P (C1.grow base b k) (bA M base (some (.row ty n cs))) w'∧Le C1 (C1.grow base b k) M (bA M base (some (.row ty n cs))) w' w':=by
 have hne:∀ (i:Nat) (x:AO),M[i]? = some (some x)→i≠base:=fun i x h e=>hf x (e ▸ h)
 have hL:Le C1 (C1.grow base b k) M (bA M base (some (.row ty n cs))) w' w':=by
  refine ⟨fun i x h=>⟨x,(aS M base i _ x (fun e=>hne i x h e.symm)).2 h⟩,fun i x h ty n cs hm=>⟨cs,(aS M base i _ _ (fun e=>hne i x h e.symm)).1 hm⟩,fun i x h o' hm hl => ?_,fun _ h=>h,fun _ _=>rfl⟩
  have h4:=(aS M base i _ _ (fun e=>hne i x h e.symm)).1 hm
  rw [h] at h4;cases h4
  exact ⟨hl,by simp [Cx.grow,hne i x h],by simp [Cx.grow,hne i x h]⟩
 have Ej:∀ (i:Nat) (x:AO),i≠base→(bA M base (some (.row ty n cs)))[i]? = some (some x)→M[i]? = some (some x):=fun i x h=>(aS M base i _ x (fun e=>h e.symm)).1
 have hnew:∀ (x:AO),(bA M base (some (.row ty n cs)))[base]? = some (some x)→x = .row ty n cs:=fun x h=>by rw [aZ] at h;cases h;rfl
 have hι:∀ i,i≠base→(C1.grow base b k).ι i=C1.ι i:=fun i h=>by simp [Cx.grow,h]
 have hκ:∀ i,i≠base→(C1.grow base b k).κ i=C1.κ i:=fun i h=>by simp [Cx.grow,h]
 have hιs:(C1.grow base b k).ι base=some b:=by simp [Cx.grow]
 have hκs:(C1.grow base b k).κ base=k:=by simp [Cx.grow]
 refine ⟨⟨fun i Dh n' Bp hm => ?_,fun i Dh Bp hm => ?_,fun i es cl hm => ?_,fun i i' o1 o2 j hm hl Dr D3 Dd Fc => ?_,fun i x j hm hl hj => ?_,fun j hj=>hM.Fs j hj,fun i x j hm hl hj => ?_⟩,hL⟩
 ·by_cases e:i=base
  ·subst e
   cases hnew _ hm;obtain ⟨arr,inf,q0,q1,q2,q3,q4,q5,q6,q7⟩:=hrow;exact .inr ⟨b,arr,inf,hιs,q0,q1,by rw [hκs];exact q2,q3,by rw [hκs];exact q4,by rw [hκs];exact q5,q6,q7⟩
  ·rw [hι i e,hκ i e]
   rcases hM.row _ _ _ _ (Ej i _ e hm) with h4 | ⟨j,arr,inf,q0,q1,q2,q3,q4,q5,q6,q7,q8⟩
   ·exact .inl h4
   ·exact .inr ⟨j,arr,inf,q0,q1,q2,q3,q4,q5,q6,q7,q8⟩
 ·by_cases e:i=base
  ·subst e;cases hnew _ hm
  ·rw [hι i e]
   obtain ⟨j,arr,q0,q1,q2,q3,q4⟩:=hM.box _ _ _ (Ej i _ e hm);exact ⟨j,arr,q0,q1,q2,fun j hj=>(q3 j hj).mono hL,q4⟩
 ·by_cases e:i=base
  ·subst e;cases hnew _ hm
  ·rw [hι i e]
   obtain ⟨j,arr,q0,q1,q2,q3⟩:=hM.mp _ _ _ (Ej i _ e hm);refine ⟨j,arr,q0,q1,q2,fun j hj => ?_⟩
   obtain ⟨en,r1,r2,r3,r4⟩:=q3 j hj;exact ⟨en,r1,r2,r3,r4.mono hL.F hL.fz⟩
 ·by_cases e:i=base
  ·by_cases e':i'=base
   ·rw [e,e']
   ·subst e
    rw [hιs] at Dd;cases Dd
    rw [hι i' e'] at Fc
    have:=hold i' _ _ (Ej i' _ e' Dr) D3 Fc;omega
  ·by_cases e':i'=base
   ·subst e'
    rw [hιs] at Fc;cases Fc
    rw [hι i e] at Dd
    have:=hold i _ _ (Ej i _ e hm) hl Dd;omega
   ·rw [hι i e] at Dd;rw [hι i' e'] at Fc
    exact hM.inj _ _ _ _ _ (Ej i _ e hm) hl (Ej i' _ e' Dr) D3 Dd Fc
 ·by_cases e:i=base
  ·subst e;rw [hιs] at hj;cases hj;exact hnF
  ·rw [hι i e] at hj;exact hM.nF _ _ _ (Ej i _ e hm) hl hj
 ·by_cases e:i=base
  ·subst e;rw [hιs] at hj;cases hj;exact hb
  ·rw [hι i e] at hj;exact hM.lt _ _ _ (Ej i _ e hm) hl hj
end
section
variable {P:Program} {T:TT} {E:Env} {C C':Cx} {M M1:Mem} {w w':World}

def aYi:List AV→Option Nat
 | []=>none
 | .own id::_=>some id
 | _::r=>aYi r
def bNb:AV→Option Nat
 | .own id=>some id
 | .tup l=>aYi l
 | _=>none
def bBe(m:Mem)(base k:Nat)(x:AV):Option AV:=match x with
 | .own id=>match Nat.beq id k with
  | true=>some (.own base)
  | false=>view m (.own id)
 | x=>view m x
def aYj(m:Mem)(base k:Nat):List AV→Option (List AV)
 | []=>some []
 | x::r=>match bBe m base k x with
  | some y=>match aYj m base k r with
   | some l=>some (y::l)
   | none=>none
  | none=>none
def bNc(m:Mem)(base k:Nat):AV→Option AV
 | .tup l=>match aYj m base k l with
  | some ys=>some (.tup ys)
  | none=>none
 | x=>bBe m base k x
def bBf(m:Mem)(base:Nat)(r:AV):Option (AV × Upd):=match bNb r with
 | some k=>match gC m k with
  | some q=>match bNc (upds m [(k,.dead)]) base k r with
   | some y=>some (y,[(base,.row q.1 q.2.1 q.2.2)])
   | none=>none
  | none=>none
 | none=>match bNc m base m.length r with
  | some y=>some (y,[])
  | none=>none

def bBg:AV→Bool
 | .own _=>true
 | x=>rig x
def aCv:List AV→Bool
 | []=>true
 | x::r=>match bBg x with
  | true=>aCv r
  | false=>false
def bBh:AV→Bool
 | .tup l=>aCv l
 | x=>bBg x
def bBi:Upd→Bool
 | []=>true
 | (_,.row _ _ cs)::r=>match aHi cs with
  | true=>bBi r
  | false=>false
 | _=>false
theorem aNq:∀ {l:List AV},aCv l=true→∀ i (h:i<l.length),bBg l[i]=true
 | [],_,i,h=>by simp at h
 | x::r,hr,i,h=>by
  unfold aCv at hr
  split at hr
  ·cases i with
   | zero=>assumption
   | succ i=>exact aNq hr i (by simpa using h)
  ·cases hr

theorem aNr{cs l:List AV}(h:kT cs = .tup l):False:=by
 unfold kT at h;split at h <;> cases h
theorem aNs{m:Mem}{x:AV}{l:List AV}(h:view m x=some (.tup l)):False:=by
 cases x with
 | agg cs =>
  simp only [view] at h
  split at h
  ·injection h with h;exact aNr h
  ·cases h
 | fn f a b =>
  simp only [view] at h
  split at h
  ·split at h <;> cases h
  ·cases h
 | ptr id off =>
  simp only [view] at h
  split at h
  ·cases h
  ·split at h <;> cases h
  ·cases h
 | own id=>simp only [view] at h;split at h <;> cases h
 | arr id off n=>simp only [view] at h;split at h <;> cases h
 | _=>simp [view] at h

theorem aCw{C2:Cx}{M2:Mem}{m:Mem}{Ck:Cx}{base k:Nat}{A:Prop}(hM:aT P Ck m w')
  (hA:A→(∀ b,Ck.F b→C2.F b)∧∀ (id:Nat) (o:AO) (b:Nat),m[id]? = some (some o)→o.live=true→Ck.ι id=some b→C2.F b)
  (hk:∀ u,Rep C' M1 w' (.own k) u→Rep C2 M2 w' (.own base) u) (hL:Le C' Ck M1 m w' w') {x y:AV} {u:Value} (h:Rep C' M1 w' x u) (hx:bBe m base k x=some y) (hr:A∨bBg y=true):Rep C2 M2 w' y u:=by
 have sv:∀ {x y:AV} {u:Value},Rep C' M1 w' x u→view m x=some y→(A∨bBg y=true)→Rep C2 M2 w' y u:=fun {x y u} h hv hr=>by
  rcases hr with hr | hr
  ·obtain ⟨h1,h2⟩:=hA hr
   have:=vX hM h1 h2 (h.mono hL) hv;have hle:Le (Ck.bare C2.F) C2 [] M2 w' w':=⟨fun _ _ h=>by simp at h,fun _ _ h=>by simp at h,fun _ _ h=>by simp at h,fun _ h=>h,fun _ _=>rfl⟩
   exact this.mono hle
  ·have:=vX (G:=fun b=>Ck.F b∨∃ (id:Nat) (o:AO),m[id]? = some (some o)∧o.live=true∧Ck.ι id=some b) hM (fun _ h => .inl h) (fun id o b h1 h2 h3 => .inr ⟨id,o,h1,h2,h3⟩) (h.mono hL) hv
   cases y with
   | own id=>cases this with | own _ _ _ ha _=>obtain ⟨o,ho⟩:=ha;simp at ho
   | _=>exact this.rig hr
 unfold bBe at hx
 split at hx
 ·rename_i id
  split at hx
  ·rename_i hb
   cases hx;have:=Nat.eq_of_beq_eq_true hb;subst this;exact hk u h
  ·exact sv h hx hr
 ·exact sv h hx hr

theorem aAn{C2:Cx}{M2:Mem}{m:Mem}{Ck:Cx}{base k:Nat}{A:Prop}(hM:aT P Ck m w')
  (hA:A→(∀ b,Ck.F b→C2.F b)∧∀ (id:Nat) (o:AO) (b:Nat),m[id]? = some (some o)→o.live=true→Ck.ι id=some b→C2.F b)
  (hk:∀ u,Rep C' M1 w' (.own k) u→Rep C2 M2 w' (.own base) u) (hL:Le C' Ck M1 m w' w'):∀ {l ys:List AV} {us:Nat→Value},(∀ i (h:i<l.length),Rep C' M1 w' l[i] (us i))→aYj m base k l=some ys→(A∨aCv ys=true) →
   ys.length=l.length∧∀ i (h:i<ys.length),Rep C2 M2 w' ys[i] (us i)
 | [],ys,us,_,hx,_=>by cases hx;exact ⟨rfl,fun i h=>by simp at h⟩
 | x::r,ys,us,h,hx,hr=>by
  unfold aYj at hx
  split at hx
  ·rename_i y h1
   split at hx
   ·rename_i l h2
    cases hx;have Hv:A∨bBg y=true:=hr.imp id fun hr=>aNq (l:=y::l) hr 0 (by simp)
    have G0:A∨aCv l=true:=hr.imp id fun hr=>by
     unfold aCv at hr
     split at hr
     ·exact hr
     ·cases hr
    obtain ⟨q1,q2⟩:=aAn hM hA hk hL (us:=fun i=>us (i+1)) (fun i hi=>h (i+1) (by simpa using hi)) h2 G0
    refine ⟨by simp [q1],fun i hi => ?_⟩
    cases i with
    | zero=>exact aCw hM hA hk hL (h 0 (by simp)) h1 Hv
    | succ i=>exact q2 i (by simpa using hi)
   ·cases hx
  ·cases hx

theorem vW{C2:Cx}{M2:Mem}{m:Mem}{Ck:Cx}{base k:Nat}{A:Prop}(hM:aT P Ck m w')
  (hA:A→(∀ b,Ck.F b→C2.F b)∧∀ (id:Nat) (o:AO) (b:Nat),m[id]? = some (some o)→o.live=true→Ck.ι id=some b→C2.F b)
  (hk:∀ u,Rep C' M1 w' (.own k) u→Rep C2 M2 w' (.own base) u) (hL:Le C' Ck M1 m w' w') {x y:AV} {u:Value} (h:Rep C' M1 w' x u) (hx:bNc m base k x=some y) (hr:A∨bBh y=true):Rep C2 M2 w' y u:=by
 unfold bNc at hx
 split at hx
 ·rename_i l
  split at hx
  ·rename_i ys hy
   cases hx;cases h with
   | tup _ vs h1 h2 =>
    obtain ⟨q1,q2⟩:=aAn hM hA hk hL (us:=fun i=>vs.getD i undef) h2 hy hr
    exact .tup _ _ (by omega) q2
  ·cases hx
 ·rename_i hn
  refine aCw hM hA hk hL h hx (hr.imp id fun hr => ?_)
  unfold bBh at hr
  split at hr
  ·exfalso
   unfold bBe at hx
   split at hx
   ·split at hx
    ·cases hx
    ·exact aNs hx
   ·exact aNs hx
  ·exact hr

theorem zA{f:Nat}{args A7:List AV}{r y:AV}{L:Upd}{base:Nat}(hm:kL args=true∧A7=args∨oJ M args=some A7∧bBh y=true∧bBi L=true)(hb:fP M base=true)
  (ho:bBf M1 base r=some (y,L)) (h:FMM P f A7 [] r M1):FM P f args M y L:=by
 intro C w us hus hM n;obtain ⟨G,hG,hGs,hA,Rn⟩:∃ G:Nat→Prop,(∀ b,C.F b→G b)∧(∀ b,G b→b<w.heap.size)∧((∀ b,G b→C.F b)∨bBh y=true∧bBi L=true)∧dD (C.bare G) [] w A7 us:=by
  rcases hm with ⟨hn,rfl⟩ | ⟨hv,Hv,G0⟩
  ·refine ⟨C.F,fun _ h=>h,hM.Fs,.inl fun _ h=>h,?_⟩
   have:∀ {l:List AV} {us:List Value},kL l=true→dD C M w l us→dD (C.bare C.F) [] w l us:=by
    intro l
    induction l with
    | nil=>intro us _ h;cases h;exact .nil
    | cons x l ih =>
     intro us hn h;cases h with
     | cons _ u _ k hx hr =>
      have h0:=pY hn 0 (by simp)
      unfold kL at hn
      split at hn
      ·exact .cons _ _ _ _ (hx.noRef h0 (fun _ h=>h) (fun _ _=>rfl)) (ih hn hr)
      ·cases hn
   exact this hn hus
  ·refine ⟨fun b=>C.F b∨∃ (id:Nat) (o:AO),M[id]? = some (some o)∧o.live=true∧C.ι id=some b,fun _ h => .inl h,fun b h => ?_,.inr ⟨Hv,G0⟩,?_⟩
   ·rcases h with h | ⟨id,o,h1,h2,h3⟩
    ·exact hM.Fs b h
    ·exact hM.lt id o b h1 h2 h3
   ·obtain ⟨q1,q2⟩:=lX (G:=fun b=>C.F b∨∃ (id:Nat) (o:AO),M[id]? = some (some o)∧o.live=true∧C.ι id=some b) hM (fun _ h => .inl h) (fun id o b h1 h2 h3 => .inr ⟨id,o,h1,h2,h3⟩) (us:=fun i=>us.getD i undef) (fun i hi=>hus.at i hi) hv
    have:=dD.ofArr (l:=A7) (us:=us.toArray) (by simp [hus.len,q1]) (fun i hi=>by rw [cF];exact q2 i hi)
    exact this
 have Db:aT P (C.bare G) [] w:=⟨fun _ _ _ _ h=>by simp at h,fun _ _ _ h=>by simp at h,fun _ _ _ h=>by simp at h,fun _ _ _ _ _ h=>by simp at h,fun _ _ _ h=>by simp at h,hGs,fun _ _ _ h=>by simp at h⟩
 refine (h (C.bare G) w us Rn Db n).mono ?_;rintro e w' ⟨u,rfl,C',hF,Ch,hr⟩;refine ⟨u,rfl,?_⟩;have hkeep:∀ b,b<w.heap.size→w'.heap[b]? = w.heap[b]? := fun b hb=>hF.keep b hb (fun id o h=>by simp at h)
 have hnew:∀ (id:Nat) (o:AO) (b:Nat),M1[id]? = some (some o)→o.live=true→C'.ι id=some b→w.heap.size≤b:=fun id o b h1 h2 h3=>by
  rcases hF.new id o b h1 h2 h3 with h4 | ⟨_,_,h4,_⟩
  ·exact h4
  ·simp at h4
 have G1:∀ b,C'.F b→G b∨w.heap.size≤b:=fun b hb=>by
  rcases hF.F2 b hb with h4 | h4 | ⟨_,_,h4,_⟩
  ·exact .inl h4
  ·exact .inr h4
  ·simp at h4
 have hfree:=cU hb;unfold bBf at ho
 split at ho
 ·rename_i k hk
  split at ho
  ·rename_i q hq
   split at ho
   ·rename_i y' hy
    cases ho;have hok:=dI hq;have hmk:=qH Ch (id:=k) false hok rfl;have hlk:=Ch.le (dE (C:=C') (w:=w') (id:=k) false hok rfl);obtain ⟨f1,m1⟩:=aNt (C:=C) (M:=M) (w:=w) (w':=w') (kb:=C'.ι k) hM hF.os hF.tape hF.out hF.size hkeep;have hAA:(∀ b,G b→C.F b)→(∀ b,(C'.close k false).F b→(C.after w w' (C'.ι k)).F b)∧∀ (id:Nat) (o:AO) (b:Nat),(upds M1 [(k,.dead)])[id]? = some (some o)→o.live=true→(C'.close k false).ι id=some b→(C.after w w' (C'.ι k)).F b:=by
     intro hGC;refine ⟨fun b hb => ?_,fun id o b h1 h2 h3 => ?_⟩
     ·have A1:C'.F b:=by rcases hb with hb | ⟨hb,_⟩;exact hb;cases hb
      rcases G1 b A1 with h4 | h4
      ·exact .inl (hGC b h4)
      ·exact .inr ⟨h4,Ch.Fs b A1,fun e=>Ch.nF _ _ _ hok rfl e A1⟩
     ·simp only [upds] at h1
      have hne:k≠id:=fun e=>by subst e;rw [aZ] at h1;cases h1;cases h2
      have Je:=(aS M1 k id _ _ hne).1 h1;exact .inr ⟨hnew id o b Je h2 h3,Ch.lt id o b Je h2 h3,fun e=>hne (Ch.inj _ _ _ _ _ hok rfl Je h2 e h3)⟩
    cases hkb:C'.ι k with
    | none =>
     rw [hkb] at hAA f1 m1
     obtain ⟨hz,hcs⟩:q.2.1=0∧q.2.2=[]:=by
      rcases Ch.row _ _ _ _ hok with ⟨_,hz,hcs⟩ | ⟨b,_,_,hb,_⟩
      ·exact ⟨hz,hcs⟩
      ·rw [hkb] at hb;cases hb
     rw [hz,hcs];have m2:=xW (ty:=q.1) m1 hfree;have f2:=xV (ty:=q.1) (C:=C.after w w' none) (w:=w') hfree;have hle:=m1.le f2;refine ⟨_,f1.trans f2,m2,?_⟩;refine vW (C2:=(C.after w w' none).nil base) (M2:=upds M [(base,.row q.1 0 [])]) (A:=∀ b,G b→C.F b) hmk (fun h=>⟨fun b hb=>(hAA h).1 b hb,fun id o b h1 h2 h3=>(hAA h).2 id o b h1 h2 h3⟩) (fun v hv => ?_) hlk hr hy (hA.imp id (·.1))
     cases hv with
     | own _ _ h0 ha hrow =>
      rcases hrow _ _ _ hok with ⟨rfl,_,_⟩ | ⟨b,_,hb⟩
      ·exact .own base _ rfl ⟨_,aZ ..⟩ (fun ty n cs h=>by simp only [upds] at h;rw [aZ] at h;cases h;exact .inl ⟨rfl,by simp [Cx.nil],rfl⟩)
      ·rw [hkb] at hb;cases hb
    | some b =>
     rw [hkb] at hAA f1 m1
     rcases Ch.row _ _ _ _ hok with ⟨hn,_⟩ | ⟨b',arr,inf,A1,q1,q2,q3,q4,q5,q6,q7,q8⟩
     ·rw [hkb] at hn;cases hn
     rw [hkb] at A1;cases A1
     have hbn:=hnew k _ b hok rfl hkb;have hbl:=Ch.lt k _ b hok rfl hkb;have hcell:∀ j (h:j<q.2.2.length),cM (C.after w w' (some b)).F w' q.2.2[j] (arr.getD j undef):=fun j hj=>by
      rcases hA with hGC | ⟨_,G0⟩
      ·exact (q7 j hj).mono (fun b hb=>(hAA hGC).1 b (.inl hb)) (fun _ _=>rfl)
      ·simp only [bBi] at G0
       split at G0
       ·rename_i hcs
        exact (q7 j hj).rig (aCx hcs j hj)
       ·cases G0
     obtain ⟨m2,Dc⟩:=bNd (base:=base) (b:=b) (k:=C'.κ k) (ty:=q.1) (n:=q.2.1) (cs:=q.2.2) m1 hfree (fun hF=>by
      rcases hF with hF | ⟨_,_,hF⟩
      ·have:=hM.Fs b hF;omega
      ·exact hF rfl) (fun i x j h1 h2 h3=>by have:=hM.lt i x j h1 h2 h3;omega) hbl ⟨arr,inf,q1,q2,q3,q4,q5,q6,hcell,q8⟩
     refine ⟨_,?_,m2,?_⟩
     ·have hne:∀ (i:Nat) (x:AO),M[i]? = some (some x)→i≠base:=fun i x h e=>hfree x (e ▸ h)
      refine ⟨f1.os,f1.tape,f1.out,f1.size,f1.keep,fun i x h=>⟨Dc.ids i x h,by simp [Cx.grow,Cx.after,hne i x h],by simp [Cx.grow,Cx.after,hne i x h]⟩,Dc.row,fun i x h o' h1 h2=>(Dc.liv i x h o' h1 h2).1,fun i x j h1 h2 h3 => ?_,f1.F1,f1.F2⟩
      by_cases e:i=base
      ·subst e
       simp only [Cx.grow,if_true] at h3
       cases h3;exact .inl hbn
      ·simp only [Cx.grow,e,if_false] at h3
       exact f1.new i x j ((aS M base i _ _ (fun e'=>e e'.symm)).1 h1) h2 h3
     ·refine vW (C2:=(C.after w w' (some b)).grow base b (C'.κ k)) (M2:=upds M [(base,.row q.1 q.2.1 q.2.2)]) (A:=∀ b,G b→C.F b) hmk (fun h=>⟨fun b hb=>(hAA h).1 b hb,fun id o b h1 h2 h3=>(hAA h).2 id o b h1 h2 h3⟩) (fun v hv => ?_) hlk hr hy (hA.imp id (·.1))
      cases hv with
      | own _ _ h0 ha hrow =>
       rcases hrow _ _ _ hok with ⟨_,hn,_⟩ | ⟨b',rfl,hb⟩
       ·rw [hkb] at hn;cases hn
       ·rw [hkb] at hb;cases hb
        exact .own base _ rfl ⟨_,aZ ..⟩ (fun ty n cs h=>by simp only [upds] at h;rw [aZ] at h;cases h;exact .inr ⟨b,by simp [Cx.grow],by simp [Cx.grow]⟩)
   ·cases ho
  ·cases ho
 ·rename_i hk
  split at ho
  ·rename_i y' hy
   cases ho;obtain ⟨f1,m1⟩:=aNt (C:=C) (M:=M) (w:=w) (w':=w') (kb:=none) hM hF.os hF.tape hF.out hF.size hkeep;refine ⟨_,f1,m1,?_⟩;refine vW (C2:=C.after w w' none) (M2:=upds M []) (A:=∀ b,G b→C.F b) Ch (fun hGC=>⟨fun b hb => ?_,fun id o b h1 h2 h3 => .inr ⟨hnew id o b h1 h2 h3,Ch.lt id o b h1 h2 h3,nofun⟩⟩) (fun v hv => ?_) ⟨fun i o h=>⟨o,h⟩,fun _ _ _ _ _ cs h=>⟨cs,h⟩,fun _ o h o' h' hl=>by rw [h] at h';cases h';exact ⟨hl,rfl,rfl⟩,fun _ h=>h,fun _ _=>rfl⟩ hr hy (hA.imp id (·.1))
   ·rcases G1 b hb with h4 | h4
    ·exact .inl (hGC b h4)
    ·exact .inr ⟨h4,Ch.Fs b hb,nofun⟩
   ·cases hv with
    | own _ _ h0 ha hrow =>
     obtain ⟨o,ho⟩:=ha;rw [List.getElem?_eq_none (dG _)] at ho
     cases ho
  ·cases ho
end
section
variable {P:Program} {T:TT} {E:Env} {C C':Cx} {M M1 M2:Mem} {w w':World}

def s0:AS:={ auto:=true,o:=[],obs:=[] }

end
section
variable {P:Program} {T:TT} {E:Env} {C C0:Cx} {M M0:Mem} {w w0:World}

def aE(P:Program)(k:Nat)(b:Code)(st:St)(e:Ex)(Am:St):Prop:=∀ (C0:Cx) (M0:Mem) (w0:World) (a:Act) (w:World),M0.length≤k→Sim P C0 M0 w0 st a w→∀ (ro:Option Nat),mF ro b→∀ (n:Nat),LoopIn (Fen ro) n P b (fun e' a' w'=>e'=e.toExit∧Sim P C0 M0 w0 Am a' w') a w

section
variable {k:Nat} {b:Code} {st st1 Am:St} {e:Ex}
theorem aE.step(h:aC P k b st .normal st1)(hr:aE P k b st1 e Am):aE P k b st e Am:=fun C0 M0 w0 a w hk hs ro hro n=>LoopIn.step (wpIn_mono (h C0 M0 w0 a w hk hs ro hro n) fun e' a' w' hq=>by
 obtain ⟨rfl,Cl⟩:=hq;exact hr C0 M0 w0 a' w' hk Cl ro hro n)
theorem aE.exit(h:aC P k b st e Am)(he:e ≠ .normal):aE P k b st e Am:=fun C0 M0 w0 a w hk hs ro hro n=>LoopIn.step (wpIn_mono (h C0 M0 w0 a w hk hs ro hro n) fun e' a' w' hq=>by
 obtain ⟨rfl,Cl⟩:=hq;cases e with
 | normal=>exact absurd rfl he
 | ret=>exact ⟨rfl,Cl⟩
 | exit id=>exact ⟨rfl,Cl⟩)
theorem aE.code(h:aE P k b st e Am):aC P k (.loop b) st e Am:=fun C0 M0 w0 a w hk hs ro hro n=>LoopIn.wp (h C0 M0 w0 a w hk hs ro hro.loop n)
theorem aE.range{α β:Type}(S:Nat→β→St)(R:β→St)(f:β→α→β)(Inv:Nat→β→Prop)(he:e ≠ .normal)(l:List α){a0:β}(h0:Inv 0 a0)
  (hs:∀ (i:Nat) (x:α) (acc:β),l[i]? = some x→Inv i acc→Inv (i+1) (f acc x)∧aC P k b (S i acc) .normal (S (i+1) (f acc x)))
  (hx:∀ acc,Inv l.length acc→aC P k b (S l.length acc) e (R acc)):aE P k b (S 0 a0) e (R (l.foldl f a0)):=by
 have key:∀ (r:List α) (i:Nat) (acc:β),l.drop i=r→i≤l.length→Inv i acc→aE P k b (S i acc) e (R (r.foldl f acc)):=by
  intro r
  induction r with
  | nil =>
   intro i acc hd hi hI;have:i=l.length:=by have:=congrArg List.length hd;simp at this;omega
   subst this;exact .exit (hx _ hI) he
  | cons x r ih =>
   intro i acc hd hi hI;have hl:l[i]? = some x:=by
    have:=congrArg (·[0]?) hd
    simpa using this
   obtain ⟨h1,h2⟩:=hs i x acc hl hI;have hlt:i<l.length:=(B3.1 hl).1;refine .step h2 (ih (i+1) _ ?_ (by omega) h1)
   have:=congrArg List.tail hd;simpa [List.tail_drop] using this
 exact key l 0 a0 (by simp) (Nat.zero_le _) h0

end

def FV(P:Program)(f:Nat)(args:List AV)(base:Nat)(y:AV)(L:Upd):Prop:=∃ r M1,FMM P f args [] r M1∧bBf M1 base r=some (y,L)

theorem FV.fc{f base:Nat}{args:List AV}{y:AV}{L:Upd}{bs:List (Nat × AO)}(h:FV P f args base y L)(hn:kL args=true):FC P f args bs base y L:=fun M _ hb _=>by
 obtain ⟨r,M1,h1,h2⟩:=h;exact zA (.inl ⟨hn,rfl⟩) hb h2 h1

def aRy(m M:Mem):Prop:=∀ (id:Nat) (o:AO),bY m id=some o→bY M id=some o
section
variable {m:Mem}
theorem aJz(hs:aRy m M){id:Nat}{r:Nat × Nat × List PV}(h:gC m id=some r):gC M id=some r:=by
 have:=bH.2 (dI h);unfold gC;rw [hs _ _ this]
theorem bBd(hs:aRy m M){x:AV}{y:PV}(h:Fb m x=some y):Fb M x=some y:=by
 unfold Fb at h ⊢
 split at h
 ·exact h
 ·exact h
 ·split at h
  ·rename_i hr
   rw [aJz hs hr];exact h
  ·cases h
 ·cases h
theorem aHh(hs:aRy m M):∀ {l:List AV} {ys:List PV},aDt m l=some ys→aDt M l=some ys
 | [],_,h=>h
 | x::r,ys,h=>by
  unfold aDt at h ⊢
  split at h
  ·rename_i h1
   split at h
   ·rename_i h2
    rw [bBd hs h1,aHh hs h2];exact h
   ·cases h
  ·cases h
mutual
theorem bNa(hs:aRy m M):∀ {x y:AV},view m x=some y→view M x=some y
 | .p x,y,h=>by simp only [view] at h ⊢;exact h
 | .kb b,y,h=>by simp only [view] at h ⊢;exact h
 | .any,y,h=>by simp only [view] at h ⊢;exact h
 | .yld l,y,h=>by simp only [view] at h ⊢;exact h
 | .rp cs o,y,h=>by simp only [view] at h ⊢;exact h
 | .own id,y,h=>by
  simp only [view] at h ⊢
  split at h
  ·rename_i hr
   rw [aJz hs hr];exact h
  ·cases h
 | .arr id off n,y,h=>by
  simp only [view] at h ⊢
  split at h
  ·rename_i hr
   rw [aJz hs hr];exact h
  ·cases h
 | .ptr id off,y,h=>by
  simp only [view] at h ⊢
  split at h
  ·rename_i hr
   rw [hs _ _ hr];exact h
  ·rename_i hr
   rw [hs _ _ hr]
   split at h
   ·rename_i hc
    simp only [aHh hs hc];exact h
   ·cases h
  ·cases h
 | .agg l,y,h=>by
  simp only [view] at h ⊢
  split at h
  ·rename_i hr
   rw [pX hs hr];exact h
  ·cases h
 | .fn f a b,y,h=>by
  simp only [view] at h ⊢
  split at h
  ·rename_i ha
   split at h
   ·rename_i hb
    rw [pX hs ha,pX hs hb];exact h
   ·cases h
  ·cases h
 | .tup l,y,h=>by simp [view] at h
 | .mp i,y,h=>by simp [view] at h
theorem pX(hs:aRy m M):∀ {l ys:List AV},oJ m l=some ys→oJ M l=some ys
 | [],_,h=>by simp only [oJ] at h ⊢;exact h
 | x::r,ys,h=>by
  simp only [oJ] at h ⊢
  split at h
  ·rename_i h1
   split at h
   ·rename_i h2
    rw [bNa hs h1,pX hs h2];exact h
   ·cases h
  ·cases h
end
end
theorem sI:∀ (bs:Upd) (m:Mem) (id:Nat) (o:AO),bY (upds m bs) id=some o→(id,o)∈bs∨bY m id=some o
 | [],_,_,_,h => .inr h
 | (i,x)::r,m,id,o,h=>by
  rcases sI r _ id o h with h1 | h1
  ·exact .inl (Cj _ h1)
  ·rw [cY] at h1
   split at h1
   ·rename_i e
    subst e;cases h1;exact .inl (gL ..)
   ·exact .inr h1
theorem FV.view{f base:Nat}{args A7:List AV}{y:AV}{L:Upd}{bs:List (Nat × AO)}(h:FV P f A7 base y L)(hv:oJ (upds [] bs) args=some A7)(h1:bBh y=true)(h2:bBi L=true):FC P f args bs base y L:=fun M hb hf _=>by
 obtain ⟨r,M1,h3,h4⟩:=h;refine zA (.inr ⟨pX (fun id o ho => ?_) hv,h1,h2⟩) hf h4 h3
 rcases sI bs [] id o ho with h5 | h5
 ·exact hb _ h5
 ·simp [bY] at h5
end
section
noncomputable abbrev Tp:=Tryz.prog

inductive Tr (α:Type) where
 | nil
 | node (v:Option α) (l r:Tr α)
def Tr.get{α:Type}:Tr α→Nat→Option α
 | .nil,_=>none
 | .node v l r,k=>match Nat.beq k 0 with
  | true=>v
  | false=>match Nat.beq (Nat.mod k 2) 1 with
   | true=>l.get (Nat.div k 2)
   | false=>r.get (Nat.sub (Nat.div k 2) 1)
def Tr.all{α:Type}(f:Nat→Nat):Tr α→List (Nat × α)
 | .nil=>[]
 | .node v l r=>(match v with | some x=>[(f 0,x)] | none=>[])++l.all (fun k=>f (2*k+1))++r.all (fun k=>f (2*k+2))
theorem Tr.get_all{α:Type}:∀ (t:Tr α) (f:Nat→Nat) (k:Nat) (x:α),t.get k=some x→(f k,x)∈t.all f
 | .nil,_,_,_,h=>by cases h
 | .node v l r,f,k,x,h=>by
  unfold Tr.get at h
  unfold Tr.all
  split at h
  ·rename_i hb
   have hk:=Nat.eq_of_beq_eq_true hb;subst hk;subst h;exact oV _ (oV _ (gL ..))
  ·rename_i hb
   have hk:=Nat.ne_of_beq_eq_false hb
   split at h
   ·rename_i h1
    have h1:k % 2=1:=Nat.eq_of_beq_eq_true h1;have:=Tr.get_all l (fun k=>f (2*k+1)) _ x h
    refine oV _ (aBw _ ?_);have e:2*(k / 2)+1=k:=by omega
    have e':2*Nat.div k 2+1=k:=e;simp only [e'] at this
    exact this
   ·rename_i h1
    have h1:k % 2≠1:=Nat.ne_of_beq_eq_false h1;have:=Tr.get_all r (fun k=>f (2*k+2)) _ x h
    refine aBw _ ?_;have e:2*(k / 2-1)+2=k:=by omega
    have e':2*Nat.sub (Nat.div k 2) 1+2=k:=e;simp only [e'] at this
    exact this

abbrev Ap:Option TI:=some ⟨.func,1,8,[.nilFunc],true⟩
abbrev Of:Option TI:=some ⟨.int .i64,1,8,[.int .i64 0],true⟩
abbrev Q5:Option TI:=some ⟨.int .u8,1,1,[.int .u8 0],true⟩
abbrev Q6:Option TI:=some ⟨.int .u64,1,8,[.int .u64 0],true⟩
abbrev R9:Option TI:=some ⟨.struct [(0,3,true),(1,3,true)],2,16,[.int .i64 0,.int .i64 0],true⟩
abbrev Sa:Option TI:=some ⟨.struct [(0,3,true),(1,3,true),(2,3,true)],3,24,[.int .i64 0,.int .i64 0,.int .i64 0],true⟩
abbrev Sb:Option TI:=some ⟨.str,1,16,[.string { data := #[] }],true⟩
abbrev Sc:Option TI:=some ⟨.int .i32,1,4,[.int .i32 0],true⟩
abbrev Uv:Option TI:=some ⟨.struct [(0,2,true),(1,3,true),(2,4,true),(3,6,true)],4,24,[.int .i64 0,.int .i64 0,.bool false,.int .u8 0],true⟩
abbrev Uw:Option TI:=some ⟨.struct [(0,26,true),(3,173,true),(4,174,true)],5,72,[.int .i64 0,.slice none 0 0,.slice none 0 0,.map none,.map none],true⟩
abbrev Og:Option TI:=some ⟨.struct [(0,3,true),(1,3,true),(2,3,true),(3,3,true),(4,3,true),(5,3,true)],6,48,.int .i64 0::List.replicate 5 (.int .i64 0),true⟩
abbrev Oh:Option TI:=some ⟨.struct [(0,17,true)],1,8,[.pointer none],false⟩
abbrev Oi:Option TI:=some ⟨.struct [(0,192,true),(1,193,true)],3,40,[.slice none 0 0,.int .i64 0,.int .i64 0],true⟩
abbrev Oj:Option TI:=some ⟨.struct [(0,125,true)],1,8,[.nilFunc],true⟩
abbrev Ol:Option TI:=some ⟨.struct [(0,12,true),(1,12,true),(2,127,true),(3,268,true),(4,5,true),(5,5,true),(6,269,true),(7,270,true),(8,271,true),(9,272,true),(10,273,true)],11,48,[.int .u64 0,.int .u64 0,.int .u32 0,.int .u8 0,.int .u8 0,.int .u8 0,.int .u8 0,.nilFunc,.pointer none,.int .i32 0,.int .i32 0],false⟩
abbrev Om:Option TI:=some ⟨.struct [(0,3,true),(1,42,true),(2,3,true),(3,3,true),(4,3,true),(5,3,true)],6,48,.int .i64 0::List.replicate 5 (.int .i64 0),true⟩
abbrev On:Option TI:=some ⟨.struct [(0,124,true),(1,136,true),(2,124,true),(3,137,true),(4,136,true)],5,40,.nilFunc::List.replicate 4 (.nilFunc),true⟩
abbrev Oo:Option TI:=some ⟨.struct [(0,22,true),(1,3,true),(2,127,true)],3,40,[.slice none 0 0,.int .i64 0,.int .u32 0],true⟩
abbrev Oq:Option TI:=some ⟨.struct [(0,3,true),(1,23,true),(2,24,true)],3,56,[.int .i64 0,.slice none 0 0,.slice none 0 0],true⟩
abbrev Ot:Option TI:=some ⟨.struct [(0,4,true),(1,4,true),(2,4,true),(3,4,true),(4,3,true),(5,3,true),(6,3,true)],7,32,[.bool false,.bool false,.bool false,.bool false,.int .i64 0,.int .i64 0,.int .i64 0],true⟩
abbrev Ou:Option TI:=some ⟨.struct [(0,3,true),(1,4,true),(2,33,true)],3,40,[.int .i64 0,.bool false,.slice none 0 0],true⟩
abbrev Ov:Option TI:=some ⟨.struct [(0,3,true),(1,58,true),(2,59,true)],3,56,[.int .i64 0,.slice none 0 0,.slice none 0 0],true⟩
def tTr:Tr TI := .node none (.node Ap (.node Of (.node Uv (.node (some ⟨.ptr 263,1,8,[.pointer none],true⟩) (.node R9 (.node Ap (.node (some ⟨.int .u32,1,4,[.int .u32 0],true⟩) (.node Ap .nil .nil) .nil) (.node (some ⟨.ptr 197,1,8,[.pointer none],true⟩) .nil .nil)) (.node Ap (.node Ap .nil .nil) (.node Ap .nil .nil))) (.node Sa (.node Ap (.node Ap (.node (some ⟨.ptr 5,1,8,[.pointer none],true⟩) .nil .nil) .nil) (.node (some ⟨.map 3 4,1,8,[.map none],true⟩) .nil .nil)) (.node Ap (.node Uw .nil .nil) (.node Ap .nil .nil)))) (.node (some ⟨.slice 31,1,24,[.slice none 0 0],true⟩) (.node none (.node (some ⟨.slice 76,1,24,[.slice none 0 0],true⟩) (.node Ap .nil .nil) (.node Ap .nil .nil)) (.node none .nil (.node Ap .nil .nil))) (.node Ap (.node Ap (.node Ap .nil .nil) (.node Ap .nil .nil)) (.node Og (.node Ap .nil .nil) (.node Ap .nil .nil))))) (.node Sb (.node Oh (.node none (.node Ap (.node none (.node Ap .nil .nil) .nil) (.node Oi .nil .nil)) (.node none (.node Ap .nil .nil) (.node Oj .nil .nil))) (.node Ap (.node Ap (.node Ap (.node Ol .nil .nil) .nil) .nil) (.node Ap (.node Ap .nil .nil) (.node Ap .nil .nil)))) (.node Ap (.node Om (.node Ap (.node On (.node Ap .nil .nil) .nil) (.node Ap .nil .nil)) (.node Ap (.node Ap .nil .nil) (.node Ap .nil .nil))) (.node (some ⟨.slice 119,1,24,[.slice none 0 0],true⟩) (.node Ap (.node Ap .nil .nil) (.node Ap .nil .nil)) (.node Ap .nil (.node Ap .nil .nil)))))) (.node Q5 (.node Sb (.node (some ⟨.ptr 275,1,8,[.pointer none],true⟩) (.node (some ⟨.slice 3,1,24,[.slice none 0 0],true⟩) (.node Ap (.node Oo (.node (some ⟨.ptr 245,1,8,[.pointer none],true⟩) .nil .nil) .nil) (.node (some ⟨.array 2 3,2,16,[.int .i64 0,.int .i64 0],true⟩) .nil .nil)) (.node Ap (.node Ap .nil .nil) (.node Q6 .nil .nil))) (.node Ap (.node Ap (.node Ap (.node Sc .nil .nil) .nil) (.node Ap .nil .nil)) (.node Ap (.node Ap .nil .nil) (.node Ap .nil .nil)))) (.node Oq (.node Ap (.node R9 (.node Ap (.node (some ⟨.struct [(0,264,false)],0,0,[],false⟩) .nil .nil) .nil) (.node Ap .nil .nil)) (.node Ap (.node Ap .nil .nil) (.node Ap .nil .nil))) (.node Ap (.node Ap (.node Ap .nil .nil) (.node Of .nil .nil)) (.node Ot (.node (some ⟨.slice 4,1,24,[.slice none 0 0],true⟩) .nil .nil) (.node (some ⟨.ptr 3,1,8,[.pointer none],true⟩) .nil .nil))))) (.node none (.node Sc (.node Ap (.node (some ⟨.slice 33,1,24,[.slice none 0 0],true⟩) (.node Ap (.node Ap .nil .nil) .nil) (.node Ou .nil .nil)) (.node Ap (.node Ap .nil .nil) (.node Ap .nil .nil))) (.node Ap (.node Ap (.node Ap .nil .nil) (.node Ap .nil .nil)) (.node Ap .nil (.node Q6 .nil .nil)))) (.node Ap (.node Ap (.node Ap (.node Ap (.node Q5 .nil .nil) .nil) (.node Ap .nil .nil)) (.node Ap (.node (some ⟨.map 3 44,1,8,[.map none],true⟩) .nil .nil) (.node Ap .nil .nil))) (.node Ov (.node Ap (.node Ap .nil .nil) (.node Ap .nil .nil)) (.node Ap .nil (.node Ap .nil .nil))))))) (.node Of (.node (some ⟨.bool,1,1,[.bool false],true⟩) (.node Uv (.node (some ⟨.ptr 266,1,8,[.pointer none],true⟩) (.node Ap (.node Ap (.node Oo (.node Ap .nil .nil) .nil) (.node (some ⟨.slice 197,1,24,[.slice none 0 0],true⟩) .nil .nil)) (.node Ap (.node Ap .nil .nil) (.node Ap .nil .nil))) (.node Sa (.node Ap (.node Ap (.node Sc .nil .nil) .nil) (.node Ap .nil .nil)) (.node none (.node Uw .nil .nil) (.node Ap .nil .nil)))) (.node (some ⟨.slice 44,1,24,[.slice none 0 0],true⟩) (.node Ap (.node Ap (.node Ap (.node (some ⟨.array 0 16,0,0,[],true⟩) .nil .nil) .nil) (.node Ap .nil .nil)) (.node Ap (.node Ap .nil .nil) (.node Ap .nil .nil))) (.node Ap (.node Ap (.node Ap .nil .nil) (.node Ap .nil .nil)) (.node Ot .nil (.node Ap .nil .nil))))) (.node Q6 (.node none (.node Ap (.node (some ⟨.slice 71,1,24,[.slice none 0 0],true⟩) (.node Ap (.node Ap .nil .nil) .nil) (.node Ou .nil .nil)) (.node Ap (.node Ap .nil .nil) (.node (some ⟨.array 5 227,5,40,.nilFunc::List.replicate 4 (.nilFunc),true⟩) .nil .nil))) (.node (some ⟨.int .u16,1,2,[.int .u16 0],true⟩) (.node Ap (.node Ap .nil .nil) (.node Ap .nil .nil)) (.node (some ⟨.slice 121,1,24,[.slice none 0 0],true⟩) (.node Ap .nil .nil) (.node Ap .nil .nil)))) (.node (some ⟨.ptr 129,1,8,[.pointer none],true⟩) (.node Om (.node Sa (.node Ap (.node Q5 .nil .nil) .nil) (.node Ap .nil .nil)) (.node Ap (.node Q6 .nil .nil) (.node Ap .nil .nil))) (.node Ov (.node none (.node Ap .nil .nil) (.node Ap .nil .nil)) (.node Ap (.node Ap .nil .nil) (.node Ap .nil .nil)))))) (.node Q5 (.node Sb (.node Oh (.node Of (.node Ap (.node (some ⟨.ptr 176,1,8,[.pointer none],true⟩) (.node Ap .nil .nil) .nil) (.node Oi .nil .nil)) (.node Ap (.node Ap .nil .nil) (.node Oj .nil .nil))) (.node Ap (.node none (.node Ap (.node Ol .nil .nil) .nil) .nil) (.node Ap (.node Ap .nil .nil) (.node Ap .nil .nil)))) (.node Oq (.node Of (.node none (.node On (.node (some ⟨.struct [(0,264,false)],0,0,[],false⟩) .nil .nil) .nil) (.node Ap .nil .nil)) (.node none (.node Ap .nil .nil) (.node Ap .nil .nil))) (.node (some ⟨.slice 73,1,24,[.slice none 0 0],true⟩) (.node Ap (.node Ap .nil .nil) .nil) (.node Ap (.node (some ⟨.slice 195,1,24,[.slice none 0 0],true⟩) .nil .nil) (.node Ap .nil .nil))))) (.node none (.node (some ⟨.slice 5,1,24,[.slice none 0 0],true⟩) (.node (some ⟨.slice 48,1,24,[.slice none 0 0],true⟩) (.node Ap (.node Ap .nil .nil) .nil) (.node Ap (.node Ap .nil .nil) (.node Ap .nil .nil))) (.node (some ⟨.ptr 44,1,8,[.pointer none],true⟩) (.node Ap (.node Ap .nil .nil) (.node Ap .nil .nil)) (.node Og (.node Ap .nil .nil) (.node Ap .nil .nil)))) (.node R9 (.node Ap (.node Ap (.node Ap (.node Ap .nil .nil) .nil) (.node Ap .nil .nil)) (.node Ap (.node (some ⟨.map 3 24,1,8,[.map none],true⟩) .nil .nil) (.node Ap .nil .nil))) (.node Ap (.node Ap (.node Ap .nil .nil) (.node Ap .nil .nil)) (.node Ap (.node Ap .nil .nil) (.node Ap .nil .nil)))))))
def tT:TT:=tTr.get

set_option maxRecDepth 100000 in
theorem cAp:(tTr.all id).map (fun p=>cN Tryz.prog p.1)=(tTr.all id).map fun p=>some p.2:=by kernel_rfl
theorem aIl:∀ t i,tT t=some i→cN Tryz.prog t=some i:=fun t i h=>by
 have h1:=Tr.get_all tTr id t i h;obtain ⟨j,hj,hx⟩:=List.getElem_of_mem h1;have h2:=congrArg (fun l=>l[j]?) cAp
 simp only [fR,Av hj,hx,Option.map_some,id,Option.some.injEq] at h2
 exact h2

def okF(P:Program)(f:Nat):Bool:=match P.funcs[f]? with
 | some fn => !(fn.name == "runtime.NumGoroutine") && fn.body.isSome
 | none=>false
theorem bUh{P:Program}{f:Nat}(h:okF P f=true)(args:Array Value)(w:World):(callFunc f args).run P w = .ok (.enter f args) w:=by
 unfold okF at h
 split at h
 ·rename_i fn hf
  simp only [B7,Bool.not_eq_true'] at h
  have hn : ¬ fn.name = "runtime.NumGoroutine" := by simpa using h.1
  have hb:¬ fn.body=none:=fun e=>by rw [e] at h;cases h.2
  unfold callFunc;simp [hf,hn,hb]
 ·cases h
def ok(f:Nat):Bool:=match Nat.ble 2 f with
 | true=>Nat.ble f 228
 | false=>false
set_option maxRecDepth 100000 in
theorem cAq:((List.range 229).drop 2).all (okF Tryz.prog)=true:=by kernel_rfl
theorem cAr:∀ f,ok f=true→∀ args w,(callFunc f args).run Tryz.prog w = .ok (.enter f args) w:=fun f h=>by
 unfold ok at h
 split at h
 ·rename_i h2
  have h2:=Nat.le_of_ble_eq_true h2;have h3:=Nat.le_of_ble_eq_true h;have:=cAq;rw [gJ] at this
  refine bUh (this f ?_);rw [List.mem_iff_getElem];exact ⟨f-2,by simp;omega,by simp;omega⟩
 ·cases h
theorem mixed:Tryz.prog.follows .mixedOrders=true:=by kernel_rfl
end
section
variable {P:Program} {T:TT} {E:Env} {C C0:Cx} {M M0 M1:Mem} {w w0:World}

def bkI(ids:List Nat)(base j:Nat):Option Nat:=match ids[j]? with
 | some i=>some i
 | none=>match Nat.beq j ids.length with
  | true=>some base
  | false=>none
def oX(ids:List Nat)(base:Nat):List Nat→Mem→Option Upd
 | i::r,some o::m=>match mpO (bkI ids base) o with
  | some o'=>(oX ids base r m).map ((i,o') :: ·)
  | none=>none
 | [],[]=>some []
 | [],[some o]=>match mpO (bkI ids base) o with
  | some o'=>some [(base,o')]
  | none=>none
 | _,_=>none

theorem aIm{It:List Nat}{base:Nat}:∀ {ids:List Nat} {m:Mem} {L:Upd},oX It base ids m=some L→ids.Nodup→base∉ids →
  (m.length=ids.length∨m.length=ids.length+1) ∧
  ∀ (N:Mem),(∀ (p i:Nat) (o':AO),ids[p]? = some i→(bY (upds N L) i=some o'↔∃ o,m[p]? = some (some o)∧mpO (bkI It base) o=some o')) ∧
   (m.length=ids.length+1→∀ (o':AO),(bY (upds N L) base=some o'↔∃ o,m[ids.length]? = some (some o)∧mpO (bkI It base) o=some o')) ∧
   (m.length=ids.length→bY (upds N L) base=bY N base) ∧
   ∀ j,j∉ids→j≠base→bY (upds N L) j=bY N j
 | [],[],L,h,_,_=>by
  unfold oX at h;cases h
  refine ⟨.inl rfl,fun N=>⟨fun p i o' hp=>by simp at hp,fun h=>by simp at h,fun _=>rfl,fun _ _ _=>rfl⟩⟩
 | [],[some o],L,h,_,_=>by
  unfold oX at h
  split at h
  ·rename_i o' ho
   cases h;refine ⟨.inr rfl,fun N=>⟨fun p i o' hp=>by simp at hp,fun _ o2 => ?_,fun h=>by simp at h,fun j _ hj => ?_⟩⟩
   ·simp only [upds]
    rw [cY,if_pos rfl];constructor
    ·intro h;cases h;exact ⟨o,rfl,ho⟩
    ·rintro ⟨o3,h3,h4⟩
     simp at h3;subst h3
     rw [ho] at h4;exact h4
   ·simp only [upds]
    rw [cY,if_neg (Ne.symm hj)]
  ·cases h
 | i::r,some o::m,L,h,hd,hb=>by
  unfold oX at h
  split at h
  ·rename_i o' ho
   simp only [lD] at h
   obtain ⟨L',Km,rfl⟩:=h;obtain ⟨Ly,Lx⟩:=List.nodup_cons.1 hd;have Dd:base≠i:=fun e=>hb (by simp [e])
   have Fc:base∉r:=fun e=>hb (Cj _ e)
   obtain ⟨q1,q2⟩:=aIm (ids:=r) Km Lx Fc;refine ⟨by simpa using q1,fun N => ?_⟩
   obtain ⟨r1,r2,r3,r4⟩:=q2 (bA N i (some o'));refine ⟨fun p j o2 hp => ?_,fun hl o2 => ?_,fun hl => ?_,fun j hj hne => ?_⟩
   ·cases p with
    | zero =>
     simp at hp;subst hp
     simp only [upds];rw [r4 i Ly (Ne.symm Dd),cY,if_pos rfl];constructor
     ·intro h;cases h;exact ⟨o,rfl,ho⟩
     ·rintro ⟨o3,h3,h4⟩
      simp at h3;subst h3
      rw [ho] at h4;exact h4
    | succ p =>
     simp only [upds];rw [List.getElem?_cons_succ] at hp
     rw [r1 p j o2 hp];rfl
   ·have:=r2 (by simpa using hl) o2
    simpa [upds] using this
   ·simp only [upds]
    rw [r3 (by simpa using hl),cY,if_neg (Ne.symm Dd)]
   ·simp only [upds]
    rw [r4 j (fun e=>hj (Cj _ e)) hne,cY,if_neg (fun e=>hj (by simp [e]))]
  ·cases h
 | [],none::_,L,h,_,_=>by unfold oX at h;cases h
 | [],some _::_::_,L,h,_,_=>by unfold oX at h;cases h
 | _::_,[],L,h,_,_=>by unfold oX at h;cases h
 | _::_,none::_,L,h,_,_=>by unfold oX at h;cases h

theorem aEo{It:List Nat}{base:Nat}:∀ {ids:List Nat} {m:Mem} {L:Upd},oX It base ids m=some L→∀ (p:Nat) (o1:AO),m[p]? = some (some o1)→∃ o',mpO (bkI It base) o1=some o'
 | [],[],L,h,p,o1,hp=>by simp at hp
 | [],[some o],L,h,p,o1,hp=>by
  unfold oX at h
  split at h
  ·rename_i hx
   cases p with
   | zero=>simp at hp;subst hp;exact ⟨_,hx⟩
   | succ p=>simp at hp
  ·cases h
 | i::r,some o::m,L,h,p,o1,hp=>by
  unfold oX at h
  split at h
  ·rename_i hx
   simp only [lD] at h
   obtain ⟨L',Km,_⟩:=h;cases p with
   | zero=>simp at hp;subst hp;exact ⟨_,hx⟩
   | succ p=>exact aEo Km p o1 (by simpa using hp)
  ·cases h
 | [],none::_,L,h,_,_,_=>by unfold oX at h;cases h
 | [],some _::_::_,L,h,_,_,_=>by unfold oX at h;cases h
 | _::_,[],L,h,_,_,_=>by unfold oX at h;cases h
 | _::_,none::_,L,h,_,_,_=>by unfold oX at h;cases h

def Cx.back(C C1:Cx)(ids:List Nat)(base:Nat):Cx :=
 {ι:=fun j=>match idx ids j 0 with | some p=>C1.ι p | none=>if j=base then C1.ι ids.length else C.ι j
  κ:=fun j=>match idx ids j 0 with | some p=>C1.κ p | none=>if j=base then C1.κ ids.length else C.κ j
  F:=C1.F }
theorem rM:∀ {ids:List Nat},ids.Nodup→∀ {p i:Nat} (n:Nat),ids[p]? = some i→idx ids i n=some (n+p)
 | [],_,p,i,n,h=>by simp at h
 | a::r,hd,p,i,n,h=>by
  obtain ⟨h1,h2⟩:=List.nodup_cons.1 hd;unfold idx;cases p with
  | zero=>simp at h;subst h;simp
  | succ p =>
   rw [List.getElem?_cons_succ] at h
   have hne:a≠i:=fun e=>h1 (e ▸ Bi h)
   have hb:Nat.beq a i=false:=by
    cases hq:Nat.beq a i with
    | false=>rfl
    | true=>exact absurd (Nat.eq_of_beq_eq_true hq) hne
   rw [hb];have:=rM h2 (n+1) h;simp only [this]
   congr 1;omega

theorem aLb{f:Nat→Option Nat}{C':Cx}{M':Mem}(hm:bBm f C C' M M'):∀ {l ys:List AV} {us:List Value},dD C M w l us→mpL f l=some ys→dD C' M' w ys us
 | [],ys,us,h,hr=>by cases h;simp only [mpL] at hr;cases hr;exact .nil
 | x::r,ys,us,h,hr=>by
  cases h with
  | cons _ u _ k hx hk =>
   simp only [mpL] at hr
   split at hr
   ·rename_i y hy
    simp only [lD] at hr
    obtain ⟨r',G6,rfl⟩:=hr;exact .cons _ _ _ _ (uJ hm hx hy) (aLb hm hk G6)
   ·cases hr

theorem bUi{base:Nat}{ids:List Nat}{r y:AV}{L:Upd}{C1:Cx}{w':World}{u:Value}(hd:distinct 0 ids=true)(hb:fP M base=true)
  (hs:rnM 0 ids (ids.map (at? M))=some M0) (hlv:∀ i∈ids,eL M i=true) (hU:oX ids base ids M1=some L) (hy:mpA (bkI ids base) r=some y)
  (hM:aT P C M w) (hF:Fr (C.rn 0 ids) M0 w C1 M1 w') (Ch:aT P C1 M1 w') (hr:Rep C1 M1 w' r u):Fr C M w (C.back C1 ids base) (upds M L) w'∧aT P (C.back C1 ids base) (upds M L) w'∧Rep (C.back C1 ids base) (upds M L) w' y u:=by
 obtain ⟨_,hnd⟩:=jM hd;obtain ⟨Db,hmp,hsrc⟩:=sK (k:=0) hM hd hs;have hlen:M0.length=ids.length:=by have:=(aDb hs).1;simpa using this
 have hbn:base∉ids:=fun hm=>by
  obtain ⟨o,h1,_⟩:=dP (hlv _ hm);exact cU hb o h1
 obtain ⟨A2,hup⟩:=aIm hU hnd hbn;obtain ⟨u1,u2,u3,u4⟩:=hup M;have hL:=Db.le hF;have srcp:∀ p i,ids[p]? = some i→nW 0 ids p=some i:=fun p i h=>by simp [nW,h]
 have rnp:∀ p i,ids[p]? = some i→rnI 0 ids i=some p:=fun p i h=>by
  have:=rM hnd 0 h;unfold rnI;rw [show Nat.blt i 0=false from rfl,this,gU]
 have Df:∀ p i,ids[p]? = some i→∃ o o0,M[i]? = some (some o)∧o.live=true∧M0[p]? = some (some o0)∧o0.live=true∧(C.rn 0 ids).ι p=C.ι i∧(C.rn 0 ids).κ p=C.κ i:=fun p i hp=>by
  obtain ⟨o,h1,h2⟩:=dP (hlv i (Bi hp));obtain ⟨o0,h3,h4⟩:=hmp.fw _ _ _ (rnp p i hp) h1;exact ⟨o,o0,h1,h2,h3,by rw [bQ h4];exact h2,hmp.at_ _ _ (rnp p i hp)⟩
 have sh_of:∀ (p:Nat) (o0:AO),M0[p]? = some (some o0)→∃ i o,ids[p]? = some i∧M[i]? = some (some o)∧o.live=true∧o0.live=true∧(C.rn 0 ids).ι p=C.ι i:=fun p o0 hp=>by
  obtain ⟨hl,_⟩:=B3.1 hp;have Ja:ids[p]? = some ids[p]:=Av (by omega)
  obtain ⟨o,o1,h1,h2,h3,h4,h5,_⟩:=Df p _ Ja;rw [hp] at h3;cases h3
  exact ⟨_,o,Ja,h1,h2,h4,h5⟩
 have apart:∀ (j:Nat) (o:AO) (b:Nat),j∉ids→M[j]? = some (some o)→o.live=true→C.ι j=some b→w'.heap[b]? = w.heap[b]? ∧ ¬ C1.F b∧∀ (p:Nat) (o1:AO),M1[p]? = some (some o1)→o1.live=true→C1.ι p≠some b:=fun j o b hj h1 h2 h3=>by
  have Dd:=hM.lt j o b h1 h2 h3;have Mw:∀ (p:Nat) (o0:AO),M0[p]? = some (some o0)→o0.live=true→(C.rn 0 ids).ι p≠some b:=fun p o0 hp _ he=>by
   obtain ⟨i,o2,q1,q2,q3,_,q4⟩:=sh_of p o0 hp;rw [q4] at he
   have:=hM.inj j i o o2 b h1 h2 q2 q3 h3 he;subst this;exact hj (Bi q1)
  refine ⟨hF.keep b Dd Mw,fun hf => ?_,fun p o1 hp hl he => ?_⟩
  ·rcases hF.F2 b hf with q | q | ⟨p,o0,q1,q2,q3⟩
   ·exact hM.nF j o b h1 h2 h3 q
   ·omega
   ·exact Mw p o0 q1 q2 q3
  ·rcases hF.new p o1 b hp hl he with q | ⟨p0,o0,q1,q2,q3⟩
   ·omega
   ·exact Mw p0 o0 q1 q2 q3
 have ix:∀ j,(j∈ids→∃ p,idx ids j 0=some p∧ids[p]? = some j)∧(j∉ids→idx ids j 0=none):=fun j=>by
  refine ⟨fun hj => ?_,fun hj => ?_⟩
  ·obtain ⟨p,hp,he⟩:=List.mem_iff_getElem.1 hj
   have:ids[p]? = some j:=by rw [Av hp,he]
   exact ⟨p,by simpa using rM hnd 0 this,this⟩
  ·cases h1:idx ids j 0 with
   | none=>rfl
   | some p =>
    obtain ⟨_,h2⟩:=xG _ _ _ _ h1;exact absurd (Bi h2) hj
 have cls:∀ (j:Nat) (o':AO),(upds M L)[j]? = some (some o')→(∃ p o1,ids[p]? = some j∧M1[p]? = some (some o1)∧mpO (bkI ids base) o1=some o'∧(C.back C1 ids base).ι j=C1.ι p∧(C.back C1 ids base).κ j=C1.κ p) ∨
   (∃ o1,j=base∧j∉ids∧M1[ids.length]? = some (some o1)∧mpO (bkI ids base) o1=some o'∧(C.back C1 ids base).ι j=C1.ι ids.length∧(C.back C1 ids base).κ j=C1.κ ids.length) ∨
   (j∉ids∧j≠base∧M[j]? = some (some o')∧(C.back C1 ids base).ι j=C.ι j∧(C.back C1 ids base).κ j=C.κ j):=fun j o' hj=>by
  rw [← bH] at hj
  by_cases hm:j∈ids
  ·obtain ⟨p,Jk,Jb⟩:=(ix j).1 hm
   obtain ⟨o1,h1,h2⟩:=(u1 p j o' Jb).1 hj;exact .inl ⟨p,o1,Jb,h1,h2,by simp [Cx.back,Jk],by simp [Cx.back,Jk]⟩
  ·have hn:=(ix j).2 hm
   by_cases hjb:j=base
   ·subst hjb
    rcases A2 with hl | hl
    ·rw [u3 hl] at hj
     have:=cU hb o';exact absurd (bH.1 hj) this
    ·obtain ⟨o1,h1,h2⟩:=(u2 hl o').1 hj
     exact .inr (.inl ⟨o1,rfl,hm,h1,h2,by simp [Cx.back,hn],by simp [Cx.back,hn]⟩)
   ·rw [u4 j hm hjb] at hj
    exact .inr (.inr ⟨hm,hjb,bH.1 hj,by simp [Cx.back,hn,hjb],by simp [Cx.back,hn,hjb]⟩)
 have G1:Fr C M w (C.back C1 ids base) (upds M L) w':=by
  refine ⟨hF.os,hF.tape,hF.out,hF.size,fun b Dd hn => ?_,fun i o ho => ?_,fun i o ho ty n cs hx => ?_,fun i o ho o' hx hl => ?_,fun j o b hj hl hjb => ?_,fun b hb=>hF.F1 b hb,fun b hb => ?_⟩
  ·exact hF.keep b Dd fun p o0 hp hl he=>by
    obtain ⟨i,o2,q1,q2,q3,_,q4⟩:=sh_of p o0 hp;rw [q4] at he
    exact hn i o2 q2 q3 he
  ·by_cases hm:i∈ids
   ·obtain ⟨p,Jk,Jb⟩:=(ix i).1 hm
    obtain ⟨_,o0,_,_,h3,h4,h5,h6⟩:=Df p i Jb;obtain ⟨⟨o1,q1⟩,q2,q3⟩:=hF.ids p o0 h3;refine ⟨?_,by simp only [Cx.back,Jk];rw [q2,h5],by simp only [Cx.back,Jk];rw [q3,h6]⟩
    have hq:∃ o',mpO (bkI ids base) o1=some o':=by
     exact aEo hU p o1 q1
    obtain ⟨o',hq⟩:=hq;exact ⟨o',bH.1 ((u1 p i o' Jb).2 ⟨o1,q1,hq⟩)⟩
   ·have hne:i≠base:=fun e=>by subst e;exact cU hb o ho
    refine ⟨⟨o,bH.1 (by rw [u4 i hm hne];exact bH.2 ho)⟩,by simp [Cx.back,(ix i).2 hm,hne],by simp [Cx.back,(ix i).2 hm,hne]⟩
  ·rcases cls i _ hx with ⟨p,o1,q1,q2,q3,_⟩ | ⟨o1,rfl,_⟩ | ⟨_,_,q3,_⟩
   ·rw [lU q3] at q2
    obtain ⟨o2,o0,h1,_,h3,_⟩:=Df p i q1;obtain ⟨Bp,h5⟩:=hF.row p o0 h3 _ _ _ q2;obtain ⟨o4,h6,h7⟩:=hmp.bk _ _ _ (rnp p i q1) h5;rw [lU h7] at h6
    exact ⟨Bp,h6⟩
   ·exact absurd ho (cU hb o)
   ·exact ⟨cs,q3⟩
  ·rcases cls i _ hx with ⟨p,o1,q1,q2,q3,_⟩ | ⟨o1,rfl,_⟩ | ⟨_,_,q3,_⟩
   ·obtain ⟨o2,o0,h1,h2,h3,_⟩:=Df p i q1
    rw [ho] at h1;cases h1
    exact h2
   ·exact absurd ho (cU hb o)
   ·rw [ho] at q3;cases q3;exact hl
  ·have fin:∀ (p:Nat) (o1:AO),M1[p]? = some (some o1)→o1.live=true→C1.ι p=some b→w.heap.size≤b∨∃ (H6:Nat) (o0:AO),M[H6]? = some (some o0)∧o0.live=true∧C.ι H6=some b:=fun p o1 h1 h2 h3=>by
    rcases hF.new p o1 b h1 h2 h3 with q | ⟨p0,o0,q1,q2,q3⟩
    ·exact .inl q
    ·obtain ⟨i,o2,r1,r2,r3,_,r4⟩:=sh_of p0 o0 q1
     rw [r4] at q3
     exact .inr ⟨i,o2,r2,r3,q3⟩
   rcases cls j _ hj with ⟨p,o1,q1,q2,q3,q4,_⟩ | ⟨o1,rfl,_,q2,q3,q4,_⟩ | ⟨_,_,q3,q4,_⟩
   ·rw [q4] at hjb
    exact fin p o1 q2 (by rw [← bQ q3];exact hl) hjb
   ·rw [q4] at hjb
    exact fin _ o1 q2 (by rw [← bQ q3];exact hl) hjb
   ·rw [q4] at hjb
    exact .inr ⟨j,o,q3,hl,hjb⟩
  ·rcases hF.F2 b hb with q | q | ⟨p,o0,q1,q2,q3⟩
   ·exact .inl q
   ·exact .inr (.inl q)
   ·obtain ⟨i,o2,r1,r2,r3,_,r4⟩:=sh_of p o0 q1
    rw [r4] at q3
    exact .inr (.inr ⟨i,o2,r2,r3,q3⟩)
 have Gl:=hM.le G1;have hbk:bBm (bkI ids base) C1 (C.back C1 ids base) M1 (upds M L):=by
  have two:∀ i j,bkI ids base i=some j→(ids[i]? = some j)∨(i=ids.length∧j=base):=fun i j h=>by
   unfold bkI at h
   split at h
   ·rename_i hi;cases h;exact .inl hi
   ·split at h
    ·rename_i hq;cases h;exact .inr ⟨Nat.eq_of_beq_eq_true hq,rfl⟩
    ·cases h
  have big:∀ (o:AO),M1[ids.length]? = some (some o)→M1.length=ids.length+1:=fun o h=>by
   obtain ⟨hl,_⟩:=B3.1 h;omega
  refine ⟨fun i j o' hij hj => ?_,fun i j o hij hi => ?_,fun i j hij => ?_,fun _ h=>h⟩
  ·rcases two i j hij with h1 | ⟨rfl,rfl⟩
   ·exact (u1 i j o' h1).1 (bH.2 hj)
   ·rcases A2 with hl | hl
    ·have:=bH.2 hj
     rw [u3 hl] at this
     exact absurd (bH.1 this) (cU hb o')
    ·exact (u2 hl o').1 (bH.2 hj)
  ·have hq:∃ o',mpO (bkI ids base) o=some o':=by
    exact aEo hU i o hi
   obtain ⟨o',hq⟩:=hq
   rcases two i j hij with h1 | ⟨rfl,rfl⟩
   ·exact ⟨o',bH.1 ((u1 i j o' h1).2 ⟨o,hi,hq⟩),hq⟩
   ·exact ⟨o',bH.1 ((u2 (big o hi) o').2 ⟨o,hi,hq⟩),hq⟩
  ·rcases two i j hij with h1 | ⟨rfl,rfl⟩
   ·have:=rM hnd 0 h1
    rw [gU] at this
    simp [Cx.back,this]
   ·simp [Cx.back,(ix _).2 hbn]
 refine ⟨G1,⟨fun j ty n cs h => ?_,fun j ty cs h => ?_,fun j es cl h => ?_,fun j j' o1 o2 b q1 l1 q2 l2 e1 e2 => ?_,fun j o b h hl hb => ?_,Ch.Fs,fun j o b h hl hb => ?_⟩,uJ hbk hr hy⟩
 ·rcases cls j _ h with ⟨p,o1,q1,q2,q3,q4,q5⟩ | ⟨o1,rfl,_,q2,q3,q4,q5⟩ | ⟨q1,_,q3,q4,q5⟩
  ·rw [lU q3] at q2
   rw [q4,q5];exact Ch.row _ _ _ _ q2
  ·rw [lU q3] at q2
   rw [q4,q5];exact Ch.row _ _ _ _ q2
  ·rw [q4,q5]
   rcases hM.row _ _ _ _ q3 with q | ⟨b,arr,inf,p0,p1,p2,p3,p4,p5,p6,p7,p8⟩
   ·exact .inl q
   ·exact .inr ⟨b,arr,inf,p0,by rw [(apart j _ b q1 q3 rfl p0).1];exact p1,p2,p3,p4,p5,p6,fun i hi=>(p7 i hi).mono Gl.F Gl.fz,p8⟩
 ·rcases cls j _ h with ⟨p,o1,q1,q2,q3,q4,q5⟩ | ⟨o1,rfl,_,q2,q3,q4,q5⟩ | ⟨q1,_,q3,q4,q5⟩
  ·cases o1 with
   | box Dh l =>
    simp only [mpO,lD] at q3
    obtain ⟨l',D3,e⟩:=q3;cases e;obtain ⟨b,arr,p0,p1,p2,p3,p4⟩:=Ch.box _ _ _ q2;obtain ⟨n1,n2⟩:=gO hbk (w:=w') (us:=fun j=>arr.getD j undef) p3 D3
    exact ⟨b,arr,by rw [q4];exact p0,p1,by omega,n2,fun j hj=>p4 j (by omega)⟩
   | row=>simp [mpO] at q3
   | mp=>simp [mpO] at q3
   | pk=>simp [mpO] at q3
   | dead=>simp [mpO] at q3
  ·cases o1 with
   | box Dh l =>
    simp only [mpO,lD] at q3
    obtain ⟨l',D3,e⟩:=q3;cases e;obtain ⟨b,arr,p0,p1,p2,p3,p4⟩:=Ch.box _ _ _ q2;obtain ⟨n1,n2⟩:=gO hbk (w:=w') (us:=fun j=>arr.getD j undef) p3 D3
    exact ⟨b,arr,by rw [q4];exact p0,p1,by omega,n2,fun j hj=>p4 j (by omega)⟩
   | row=>simp [mpO] at q3
   | mp=>simp [mpO] at q3
   | pk=>simp [mpO] at q3
   | dead=>simp [mpO] at q3
  ·obtain ⟨b,arr,p0,p1,p2,p3,p4⟩:=hM.box _ _ _ q3
   exact ⟨b,arr,by rw [q4];exact p0,by rw [(apart j _ b q1 q3 rfl p0).1];exact p1,p2,fun i hi=>(p3 i hi).mono Gl,p4⟩
 ·rcases cls j _ h with ⟨p,o1,q1,q2,q3,q4,q5⟩ | ⟨o1,rfl,_,q2,q3,q4,q5⟩ | ⟨q1,_,q3,q4,q5⟩
  ·cases o1 with
   | mp Cp D4 =>
    simp only [mpO,Option.some.injEq] at q3
    cases q3;obtain ⟨b,arr,p0,p1,p2,p3⟩:=Ch.mp _ _ _ q2;refine ⟨b,arr,by rw [q4];exact p0,p1,p2,fun j hj => ?_⟩
    obtain ⟨en,s1,s2,s3,s4⟩:=p3 j hj;exact ⟨en,s1,s2,s3,s4.mono hbk.F (fun _ _=>rfl)⟩
   | row=>simp [mpO] at q3
   | box=>simp [mpO] at q3
   | pk=>simp [mpO] at q3
   | dead=>simp [mpO] at q3
  ·cases o1 with
   | mp Cp D4 =>
    simp only [mpO,Option.some.injEq] at q3
    cases q3;obtain ⟨b,arr,p0,p1,p2,p3⟩:=Ch.mp _ _ _ q2;refine ⟨b,arr,by rw [q4];exact p0,p1,p2,fun j hj => ?_⟩
    obtain ⟨en,s1,s2,s3,s4⟩:=p3 j hj;exact ⟨en,s1,s2,s3,s4.mono hbk.F (fun _ _=>rfl)⟩
   | row=>simp [mpO] at q3
   | box=>simp [mpO] at q3
   | pk=>simp [mpO] at q3
   | dead=>simp [mpO] at q3
  ·obtain ⟨b,arr,p0,p1,p2,p3⟩:=hM.mp _ _ _ q3
   refine ⟨b,arr,by rw [q4];exact p0,by rw [(apart j _ b q1 q3 rfl p0).1];exact p1,p2,fun i hi => ?_⟩
   obtain ⟨en,s1,s2,s3,s4⟩:=p3 i hi;exact ⟨en,s1,s2,s3,s4.mono Gl.F Gl.fz⟩
 ·rcases cls j _ q1 with ⟨p,a1,r1,r2,r3,r4,_⟩ | ⟨a1,rfl,r1,r2,r3,r4,_⟩ | ⟨r1,rb,r3,r4,_⟩ <;> rcases cls j' _ q2 with ⟨p',a2,t1,t2,t3,t4,_⟩ | ⟨a2,rfl,t1,t2,t3,t4,_⟩ | ⟨t1,tb,t3,t4,_⟩
  all_goals try rfl
  all_goals (rw [r4] at e1;rw [t4] at e2)
  ·have:=Ch.inj p p' a1 a2 b r2 (by rw [← bQ r3];exact l1) t2 (by rw [← bQ t3];exact l2) e1 e2
   subst this;rw [r1] at t1;cases t1;rfl
  ·have:=Ch.inj p _ a1 a2 b r2 (by rw [← bQ r3];exact l1) t2 (by rw [← bQ t3];exact l2) e1 e2
   obtain ⟨hl,_⟩:=B3.1 r1;omega
  ·exact absurd e1 ((apart j' o2 b t1 t3 l2 e2).2.2 p a1 r2 (by rw [← bQ r3];exact l1))
  ·have:=Ch.inj _ p' a1 a2 b r2 (by rw [← bQ r3];exact l1) t2 (by rw [← bQ t3];exact l2) e1 e2
   obtain ⟨hl,_⟩:=B3.1 t1;omega
  ·exact absurd e1 ((apart j' o2 b t1 t3 l2 e2).2.2 _ a1 r2 (by rw [← bQ r3];exact l1))
  ·exact absurd e2 ((apart j o1 b r1 r3 l1 e1).2.2 p' a2 t2 (by rw [← bQ t3];exact l2))
  ·exact absurd e2 ((apart j o1 b r1 r3 l1 e1).2.2 _ a2 t2 (by rw [← bQ t3];exact l2))
  ·exact hM.inj j j' o1 o2 b r3 l1 t3 l2 e1 e2
 ·rcases cls j _ h with ⟨p,o1,q1,q2,q3,q4,q5⟩ | ⟨o1,rfl,_,q2,q3,q4,q5⟩ | ⟨q1,_,q3,q4,q5⟩
  ·rw [q4] at hb
   exact Ch.nF _ _ b q2 (by rw [← bQ q3];exact hl) hb
  ·rw [q4] at hb
   exact Ch.nF _ _ b q2 (by rw [← bQ q3];exact hl) hb
  ·rw [q4] at hb
   exact (apart j o b q1 q3 hl hb).2.1
 ·rcases cls j _ h with ⟨p,o1,q1,q2,q3,q4,q5⟩ | ⟨o1,rfl,_,q2,q3,q4,q5⟩ | ⟨q1,_,q3,q4,q5⟩
  ·rw [q4] at hb
   exact Ch.lt _ _ b q2 (by rw [← bQ q3];exact hl) hb
  ·rw [q4] at hb
   exact Ch.lt _ _ b q2 (by rw [← bQ q3];exact hl) hb
  ·rw [q4] at hb
   exact fY (hM.lt j o b q3 hl hb) hF.size

theorem aTu{f base:Nat}{ids:List Nat}{args Bq:List AV}{r y:AV}{L:Upd}(hd:distinct 0 ids=true)(hb:fP M base=true)
  (hs:rnM 0 ids (ids.map (at? M))=some M0) (hlv:∀ i∈ids,eL M i=true) (ha:rnL 0 ids args=some Bq) (hU:oX ids base ids M1=some L) (hy:mpA (bkI ids base) r=some y)
  (h:FMM P f Bq M0 r M1):FM P f args M y L:=by
 intro C w us hus hM n;obtain ⟨Db,hmp,_⟩:=sK (k:=0) hM hd hs;refine (h (C.rn 0 ids) w us (aLb hmp hus ha) Db n).mono ?_;rintro e w' ⟨u,rfl,C1,hF,Ch,hr⟩;exact ⟨u,rfl,C.back C1 ids base,bUi hd hb hs hlv hU hy hM hF Ch hr⟩
def shown(ids:List Nat)(base:Nat)(args:List AV)(bs:Upd)(M1:Mem)(r:AV):Option (List AV × Mem × AV × Upd):=match distinct 0 ids && ids.all (eL (upds [] bs)) with
 | true=>match rnM 0 ids (ids.map (at? (upds [] bs))) with
  | some M0=>match rnL 0 ids args with
   | some Bq=>match oX ids base ids M1 with
    | some L=>match mpA (bkI ids base) r with
     | some y=>some (Bq,M0,y,L)
     | none=>none
    | none=>none
   | none=>none
  | none=>none
 | false=>none
theorem FMM.fc{f base:Nat}{ids:List Nat}{args Bq:List AV}{bs:Upd}{r y:AV}{L:Upd}(h:FMM P f Bq M0 r M1)(hs:shown ids base args bs M1 r=some (Bq,M0,y,L)):FC P f args bs base y L:=fun M hb hf _=>by
 unfold shown at hs
 have hsub:aRy (upds [] bs) M:=fun id o ho=>by
  rcases sI bs [] id o ho with h5 | h5
  ·exact hb _ h5
  ·simp [bY] at h5
 split at hs
 ·rename_i hd
  rw [B7,gJ] at hd
  have hlv:∀ i∈ids,∃ o,bY (upds [] bs) i=some o∧bY M i=some o∧o.live=true:=fun i hi=>by
   obtain ⟨o,h1,h2⟩:=dP (hd.2 i hi);exact ⟨o,bH.2 h1,hsub _ _ (bH.2 h1),h2⟩
  split at hs
  ·rename_i h1
   split at hs
   ·rename_i h2
    split at hs
    ·rename_i h3
     split at hs
     ·rename_i h4
      cases hs;have he:ids.map (at? M)=ids.map (at? (upds [] bs)):=aBx fun i hi=>by
       obtain ⟨o,q1,q2,_⟩:=hlv i hi;unfold at?
       rw [q1,q2]
      refine aTu hd.1 hf (by rw [he];exact h1) (fun i hi => ?_) h2 h3 h4 h
      obtain ⟨o,_,q2,q3⟩:=hlv i hi;exact jV (bH.1 q2) q3
     ·cases hs
    ·cases hs
   ·cases hs
  ·cases hs
 ·cases hs

theorem aPr{id ty n:Nat}{cs:List PV}(hM:aT P C M w)(ho:M[id]? = some (some (.row ty n cs))):∀ {l:List AV} {us:List Value},dD C M w l us→dD (C.close id true) (bA M id (some .dead)) w (fzL id n cs l) us
 | [],us,h=>by cases h;simp only [fzL];exact .nil
 | x::r,us,h=>by
  cases h with
  | cons _ u _ k hx hr =>
   simp only [fzL];exact .cons _ _ _ _ (aHp hM ho hx) (aPr hM ho hr)
theorem FM.close1{f id ty n:Nat}{cs:List PV}{args:List AV}{y:AV}{L:Upd}(ho:bY M id=some (.row ty n cs))(h:FM P f (fzL id n cs args) (bA M id (some .dead)) y L):FM P f args M y ((id,.dead)::L):=fun C w us hus hM k=>by
 have ho:=bH.1 ho;have fk:=dE (C:=C) (w:=w) true ho rfl;refine (h _ w us (aPr hM ho hus) (qH hM true ho rfl) k).mono ?_;rintro e w' ⟨u,rfl,C',hF,G2,hr⟩;exact ⟨u,rfl,C',fk.trans hF,G2,hr⟩
def aEp(bs:Upd):List Nat→List AV→Option (List AV)
 | [],args=>match kL args with
  | true=>some args
  | false=>none
 | id::r,args=>match bY (upds [] bs) id with
  | some (.row _ n cs)=>match r.all (fun j => !Nat.beq j id) with
   | true=>aEp bs r (fzL id n cs args)
   | false=>none
  | _=>none
def kills:List Nat→Upd→Upd
 | [],L=>L
 | id::r,L=>(id,.dead)::kills r L
theorem aIn{f base:Nat}{bs:Upd}{y:AV}{L:Upd}:∀ {ids:List Nat} {M:Mem} {args A7:List AV},aEp bs ids args=some A7→(∀ id∈ids,∀ o,bY (upds [] bs) id=some o→bY M id=some o)→fP M base=true→FV P f A7 base y L→FM P f args M y (kills ids L)
 | [],M,args,A7,hc,_,hf,h=>by
  unfold aEp at hc
  split at hc
  ·rename_i hn
   cases hc;obtain ⟨r,M1,h1,h2⟩:=h;exact zA (.inl ⟨hn,rfl⟩) hf h2 h1
  ·cases hc
 | id::r,M,args,A7,hc,hb,hf,h=>by
  unfold aEp at hc
  split at hc
  ·rename_i ty n cs ho
   split at hc
   ·rename_i hd
    have hoM:=hb id (gL ..) _ ho;refine FM.close1 hoM (aIn hc (fun j hj o hjo => ?_) ?_ h)
    ·have hne:j≠id:=fun e=>by
      have:=gJ.1 hd j hj;subst e;simp at this
     rw [cY,if_neg (Ne.symm hne)];exact hb j (Cj _ hj) o hjo
    ·have hne:id≠base:=fun e=>by
      subst e;exact cU hf _ (bH.1 hoM)
     unfold fP at hf ⊢
     rw [cY,if_neg hne];exact hf
   ·cases hc
  ·cases hc
theorem FV.close{f base:Nat}{ids:List Nat}{args A7:List AV}{y:AV}{L:Upd}{bs:Upd}(h:FV P f A7 base y L)(hc:aEp bs ids args=some A7):FC P f args bs base y (kills ids L):=fun M hb hf _=>by
 refine aIn hc (fun id _ o ho => ?_) hf h
 rcases sI bs [] id o ho with h5 | h5
 ·exact hb _ h5
 ·simp [bY] at h5

def unA:AV→AV
 | .tup l => .tup (l.map un)
 | x=>un x
theorem bUj{x:AV}{u:Value}(h:Rep C M w x u):Rep C M w (unA x) u:=by
 cases h with
 | tup cs vs h1 h2 =>
  refine .tup _ _ (by simpa using h1) (fun i hi => ?_)
  simp only [nY];exact bOf (h2 i (by simpa using hi))
 | p x u h=>exact .p _ _ h
 | any u=>exact .any u
 | kb b=>exact bOf (.kb b)
 | yld l=>exact .yld l
 | own id u h0 ha h=>exact .own id u h0 ha h
 | arr id off n u h0 ha h=>exact .arr id off n u h0 ha h
 | ptr id off u h0 ha h hp=>exact .ptr id off u h0 ha h hp
 | mp id u h0 ha h=>exact .mp id u h0 ha h
 | pa id q u h0 ha h=>exact .pa id q u h0 ha h
 | rp cs off b o us h1 h2 h3=>exact .rp cs off b o us h1 h2 h3
 | agg cs vs h0 h1 h2=>exact .agg cs vs h0 h1 h2
 | fn f cs ds us vs h1 h2 h3 h4=>exact .fn f cs ds us vs h1 h2 h3 h4
theorem vY.un{f:Nat}{args:List AV}{M M1:Mem}{r:AV}(h:vY P f args M r M1):vY P f args M (unA r) M1:=fun C w us hus hM n=>by
 refine (h C w us hus hM n).mono ?_;rintro e w' ⟨u,rfl,C1,hF,Ch,hr,hP⟩;exact ⟨u,rfl,C1,hF,Ch,bUj hr,hP⟩

def bUk(k:Nat)(g:Gh)(x:Option ((AV × Mem) × AS)):Option (AV × Mem × List Prop × List OI):=match x with
 | some ((r,M1),s)=>match gh k g ⟨[unA r],M1⟩ with
  | some ⟨[r'],M'⟩=>some (r',M',s.obs,s.o)
  | _=>none
 | none=>none
theorem vY.gh{f k:Nat}{args:List AV}{M M1 M':Mem}{r r':AV}{g:Gh}(hk:M.length≤k)(h:vY P f args M r M1)(hg:KV.gh k g ⟨[r],M1⟩=some ⟨[r'],M'⟩):vY P f args M r' M':=fun C w us hus hM n=>by
 refine (h C w us hus hM n).mono ?_;rintro e w' ⟨u,rfl,C1,hF,Ch,hr,hP⟩;have hs:Sim P (C.with []) M w ⟨[r],M1⟩ { tmps := #[u],defers:=[] } w':=⟨C1,⟨rfl,fun i hi=>by
  obtain rfl:i=0:=by simpa using hi
  exact hr⟩,Ch,hF.based [],⟨[],rfl,.nil,fun D h=>by simp at h⟩,fun p hp=>(by cases hp),hP⟩
 obtain ⟨C2,hS,Ie,G1,_,_,V3⟩:=eV hk hg hs;exact ⟨u,rfl,C2,G1.unbased,Ie,hS.rep 0 (by simp),V3⟩
end
section
/-- numbers, by runs -/
def rng:List (Nat × Nat)→List Nat
 | []=>[]
 | (a,n)::r=>List.range' a n++rng r

abbrev aA(n:Int):PV := .v (.int .i64 n)
abbrev blP(b:Bool):PV := .v (.bool b)
abbrev aG(l:List Int):PV := .sl l.length (l.map aA)
abbrev bX:PV := .v (.slice none 0 0)

def EO:Env:=⟨fun _ _ _ _=>none,ok⟩
theorem aIk:mR Tp EO:=⟨fun _ _ _ _ _ _ h=>(by cases h),cAr⟩

def cd(f:Func):Code:=f.body.getD .skip
def sub:Code→List Nat→Code
 | c,[]=>c
 | .seq a b,i::r=>match i with | 0=>sub a r | _=>sub b r
 | .cond _ a b,i::r=>match i with | 0=>sub a r | _=>sub b r
 | .block _ b,_::r=>sub b r
 | .loop b,_::r=>sub b r
 | .scope b,_::r=>sub b r
 | .rangeFunc _ _ a b,i::r=>match i with | 0=>sub a r | _=>sub b r
 | _,_::_ => .skip
def look:List (Nat × AV)→Nat→AV
 | [],_ => .any
 | (i,x)::r,k=>match Nat.beq i k with
  | true=>x
  | false=>look r k
def frm(l:List (Nat × AV)):Nat→Nat→List AV
 | 0,_=>[]
 | n+1,k=>look l k::frm l n (k+1)
abbrev fr(n:Nat)(l:List (Nat × AV)):List AV:=frm l n 0

abbrev asg(o:List OI):AS:=⟨false,o,[]⟩
abbrev out(l:List Prop):AS:=⟨false,[],l⟩
theorem gn:bC (out []):=fun _ h=>by simp at h
theorem gc{p:Prop}{l:List Prop}(hp:p)(h:bC (out l)):bC (out (p::l)):=fun q hq=>by
 rcases fU.1 hq with rfl | hq
 ·exact hp
 ·exact h q hq

def cAo(base:Nat)(x:Option ((AV × Mem) × AS)):Option (AV × Upd × List Prop × List OI):=match x with
 | some ((r,M1),s)=>match bBf M1 base (unA r) with
  | some (y,L)=>some (y,L,s.obs,s.o)
  | none=>none
 | none=>none
theorem FV.fin{f base:Nat}{fn:Func}{args:List AV}{y:AV}{L:Upd}{o:List OI}{l:List Prop}(hf:Tryz.prog.funcs[f]? = some fn)(hb:fn.body.isSome=true)
  (h:cAo base (aSb Tp tT EO 0 fn (cd fn) args [] (asg o))=some (y,L,l,[])) (g:bC (out l)):FV Tp f args base y L:=by
 unfold cAo at h
 split at h
 ·rename_i r M1 s hr
  split at h
  ·rename_i y' L' ho
   simp only [Option.some.injEq,Prod.mk.injEq] at h
   obtain ⟨rfl,rfl,rfl,hs⟩:=h;refine ⟨unA r,M1,(vY.un (aAq aIl aIk mixed hf ?_ hr (fun p hp=>g p hp))).fmm,ho⟩
   unfold cd;cases h1:fn.body with
   | none=>rw [h1] at hb;cases hb
   | some c=>rfl
  ·cases h
 ·cases h
def aBz(k:Nat)(g:Gh)(x:Option ((Ex × St) × AS)):Option (Ex × St × List Prop × List OI):=match x with
 | some ((e,st1),s)=>match gh k g st1 with
  | some Am=>some (e,Am,s.obs,s.o)
  | none=>none
 | none=>none
theorem aC.fin{k:Nat}{c:Code}{st Am:St}{e:Ex}{g:Gh}{o:List OI}{l:List Prop}(h:aBz k g (aBq Tp tT EO k 0 c st (asg o))=some (e,Am,l,[]))(gd:bC (out l)):aC Tp k c st e Am:=by
 unfold aBz at h
 split at h
 ·rename_i e1 st1 s hr
  split at h
  ·rename_i st2 hg
   simp only [Option.some.injEq,Prod.mk.injEq] at h
   obtain ⟨rfl,rfl,rfl,hs⟩:=h;exact (aDa aIl aIk mixed c hr (fun p hp=>gd p hp)).post hg
  ·cases h
 ·cases h
theorem vY.fin{f k:Nat}{fn:Func}{args:List AV}{M M':Mem}{r:AV}{g:Gh}{o:List OI}{l:List Prop}(hk:M.length=k)(hf:Tryz.prog.funcs[f]? = some fn)(hb:fn.body.isSome=true)
  (h:bUk k g (aSb Tp tT EO 0 fn (cd fn) args M (asg o))=some (r,M',l,[])) (gd:bC (out l)):vY Tp f args M r M':=by
 unfold bUk at h
 split at h
 ·rename_i r1 M1 s hr
  split at h
  ·rename_i r2 M2 hg
   simp only [Option.some.injEq,Prod.mk.injEq] at h
   obtain ⟨rfl,rfl,rfl,hs⟩:=h;refine vY.gh (Nat.le_of_eq hk) (vY.un (aAq aIl aIk mixed hf ?_ hr (fun p hp=>gd p hp))) hg
   unfold cd;cases h1:fn.body with
   | none=>rw [h1] at hb;cases hb
   | some c=>rfl
  ·cases h
 ·cases h
theorem FMM.fin{f k:Nat}{fn:Func}{args:List AV}{M M':Mem}{r:AV}{g:Gh}{o:List OI}{l:List Prop}(hk:M.length=k)(hf:Tryz.prog.funcs[f]? = some fn)(hb:fn.body.isSome=true)
  (h:bUk k g (aSb Tp tT EO 0 fn (cd fn) args M (asg o))=some (r,M',l,[])) (gd:bC (out l)):FMM Tp f args M r M':=(vY.fin hk hf hb h gd).fmm
theorem FV.frz{P:Program}{f base:Nat}{args:List AV}{y:AV}(h:FMM P f args [] y [])(ho:bBf [] base y=some (y,[])):FV P f args base y []:=⟨y,[],h,ho⟩
theorem aC.cast{P:Program}{k:Nat}{c:Code}{st st1 Am:St}{e:Ex}(h:aC P k c st e st1)(he:st1=Am):aC P k c st e Am:=he ▸ h
def bS(st:St)(l:List (Nat × AV)):St:=⟨l.foldl (fun t p=>t.set p.1 p.2) st.t,st.m⟩

theorem cH{x y:Int}(h:x=y):(x == y)=true:=by simpa using h
theorem aU{x y:Int}(h:x≠y):(x == y)=false:=by simpa using h
theorem jF{x y:Int}(h:x≠y):(x != y)=true:=by simpa using h
theorem bL{x y:Int}(h:x=y):(x != y)=false:=by simpa using h
theorem aI{x y:Int}(h:x<y):decide (x<y)=true:=by simpa using h
theorem aN{x y:Int}(h:y≤x):decide (x<y)=false:=by simpa using h
theorem mA{x y:Int}(h:x≤y):decide (x≤y)=true:=by simpa using h
theorem jG{x y:Int}(h:y<x):decide (x≤y)=false:=by simpa using h
theorem bM{b:Bool}(h:b=false):(!b)=true:=by simpa using h
theorem aV{b:Bool}(h:b=true):(!b)=false:=by simpa using h

theorem iK{α:Type}{g:α→PV}{l:List α}{i:Nat}{x:α}(h:l[i]? = some x):(l.map g)[i*1]? = some (g x):=by rw [Nat.mul_one,fR,h];rfl
theorem iL{α:Type}{g:α→PV}{l:List α}{i:Int}{x:α}(h0:0≤i)(h:l[i.toNat]? = some x):0≤i∧i<(l.length:Int)∧i.toNat*1<(l.map g).length:=by
 obtain ⟨h1,_⟩:=B3.1 h;refine ⟨h0,by omega,by simpa using h1⟩
theorem bZ{α:Type}{l:List α}{i:Int}{x:α}(h0:0≤i)(h:l[i.toNat]? = some x):0≤i∧i<(l.length:Int):=by
 obtain ⟨h1,_⟩:=B3.1 h;exact ⟨h0,by omega⟩
theorem fk{P:Program}{f:Nat}{args:List AV}{y:AV}{L:Upd}(base:Nat)(h:FV P f args base y L)(hn:kL args=true):FC P f args [] base y L:=h.fc hn
theorem fv{P:Program}{f base:Nat}{args A7:List AV}{y:AV}{L:Upd}{bs:List (Nat × AO)}(h:FV P f A7 base y L)(hv:oJ (upds [] bs) args=some A7:=by kernel_rfl)(h1:bBh y=true:=by kernel_rfl)(h2:bBi L=true:=by kernel_rfl):FC P f args bs base y L:=h.view hv h1 h2
theorem ixn{α:Type}{l:List α}{i:Nat}{x:α}(g:α→PV)(h:l[i]? = some x):0≤(i:Int)∧(i:Int)<(l.length:Int)∧(i:Int).toNat*1<(l.map g).length:=iL (Br _) (by rwa [aPo])
theorem atm{α:Type}{l:List α}{i:Nat}{x:α}(g:α→PV)(h:l[i]? = some x):(l.map g)[i*1]? = some (g x):=iK h
abbrev bF:OI := .b false
abbrev bT:OI := .b true
abbrev pI (n:Int):AV:=.p (aA n)
abbrev pB (b:Bool):AV:=.p (blP b)
abbrev fS (l:Lqq):PV:=.sl l.length (l.flatten.map aA)
theorem Az {p:Prop}{l:List Prop}(hp:p)(h:bC (out l)):bC (out (p::p::l)):=gc hp (gc hp (h))
theorem Ak {p:Prop}{l:List Prop}(hp:p)(h:bC (out l)):bC (out (p::p::p::l)):=gc hp (gc hp (gc hp (h)))
theorem Aw {p:Prop}{l:List Prop}(hp:p)(h:bC (out l)):bC (out (p::p::p::p::l)):=gc hp (gc hp (gc hp (gc hp (h))))
theorem Bo {p:Prop}{l:List Prop}(hp:p)(h:bC (out l)):bC (out (p::p::p::p::p::l)):=gc hp (gc hp (gc hp (gc hp (gc hp (h)))))
theorem Fx {p:Prop}{l:List Prop}(hp:p)(h:bC (out l)):bC (out (p::p::p::p::p::p::l)):=gc hp (gc hp (gc hp (gc hp (gc hp (gc hp (h))))))
theorem Kx {p:Prop}{l:List Prop}(hp:p)(h:bC (out l)):bC (out (p::p::p::p::p::p::p::l)):=gc hp (gc hp (gc hp (gc hp (gc hp (gc hp (gc hp (h)))))))
theorem Eu {p:Prop}{l:List Prop}(hp:p)(h:bC (out l)):bC (out (p::p::p::p::p::p::p::p::l)):=gc hp (gc hp (gc hp (gc hp (gc hp (gc hp (gc hp (gc hp (h))))))))
theorem gt (p:Prop){l:List Prop}(hp:p)(h:bC (out l)):bC (out (p::l)):=gc hp h
theorem gr (v:PV){l:List Prop}(h:bC (out l)):bC (out ((some v=some v)::l)):=gc rfl h
theorem gf{l:List Prop}(h:bC (out l)):bC (out ((false=false)::l)):=gc rfl h
def FC.o{P:Program}{f:Nat}{args:List AV}{bs:List (Nat × AO)}{base:Nat}{y:AV}{L:Upd}(_:FC P f args bs base y L):OI:=.c y L
def aE.k{P:Program}{k:Nat}{c:Code}{st Am:St}{e:Ex}(_:aE P k c st e Am)(n:Nat)(g:Gh):OI:=.k n g e Am
def aC.k{P:Program}{k:Nat}{c:Code}{st Am:St}{e:Ex}(_:aC P k c st e Am)(n:Nat)(g:Gh):OI:=.k n g e Am
def qI(ids:List Nat)(base:Nat)(x:AV):AV:=(mpA (bkI ids base) x).getD .any
def qM(f:Nat→Option Nat):List Nat→Mem→Upd
 | i::r,some o::M=>match mpO f o with
  | some q=>(i,q)::qM f r M
  | none=>[]
 | i::r,none::M=>qM f r M
 | _,_=>[]
def qS(ids:List Nat)(f:Nat→Option Nat)(args:List AV)(M:Mem):Upd:=blocks (upds [] (qM f ids M)) (clos (upds [] (qM f ids M)) (wE args))
theorem mq(ids:List Nat)(base:Nat){P:Program}{f:Nat}{Bq:List AV}{M0 M1:Mem}{r:AV}(h:FMM P f Bq M0 r M1)(hs:shown ids base (Bq.map (qI ids base)) (qS ids (bkI ids base) (Bq.map (qI ids base)) M0) M1 r=some (Bq,M0,qI ids base r,(oX ids base ids M1).getD []):=by kernel_rfl):FC P f (Bq.map (qI ids base)) (qS ids (bkI ids base) (Bq.map (qI ids base)) M0) base (qI ids base r) ((oX ids base ids M1).getD []):=FMM.fc h hs
theorem FV.fi{f base:Nat}{fn:Func}{args:List AV}{y:AV}{L:Upd}{l:List Prop}(hf:Tryz.prog.funcs[f]? = some fn)(o:List OI)(g:bC (out l))(h:cAo base (aSb Tryz.prog tT EO 0 fn (cd fn) args [] (asg o))=some (y,L,l,[]):=by kernel_rfl)(hb:fn.body.isSome=true:=by kernel_rfl):FV Tryz.prog f args base y L:=FV.fin hf hb h g
theorem aC.fi{k:Nat}{c:Code}{st Am:St}{e:Ex}(g:Gh)(o:List OI){l:List Prop}(gd:bC (out l))(h:aBz k g (aBq Tryz.prog tT EO k 0 c st (asg o))=some (e,Am,l,[]):=by kernel_rfl):aC Tryz.prog k c st e Am:=aC.fin h gd
theorem FMM.fi(k:Nat)(g:Gh){f:Nat}{fn:Func}{args:List AV}{M M':Mem}{r:AV}{l:List Prop}(hf:Tryz.prog.funcs[f]? = some fn)(o:List OI)(gd:bC (out l))(h:bUk k g (aSb Tryz.prog tT EO 0 fn (cd fn) args M (asg o))=some (r,M',l,[]):=by kernel_rfl)(hb:fn.body.isSome=true:=by kernel_rfl)(hk:M.length=k:=by kernel_rfl):FMM Tryz.prog f args M r M':=FMM.fin hk hf hb h gd
def Q4:List Nat→List Nat
 | a::n::r=>List.range' a n++Q4 r
 | _=>[]
abbrev gE:Gh:=⟨[],[],[],[]⟩
abbrev gZ(l:List Nat):Gh:=⟨Q4 l,[],[],[]⟩
abbrev gI(l i:List Nat):Gh:=⟨Q4 l,i,[],[]⟩
abbrev gN(l i:List Nat)(n:List (Nat × Nat)):Gh:=⟨Q4 l,i,[],n⟩
abbrev rF(n:Nat):List OI:=List.replicate n (.b false)
abbrev rT(n:Nat):List OI:=List.replicate n (.b true)
abbrev pS(c:Code)(n:Nat)(l:List Nat):Code:=sub c (List.replicate n 1++l)
end
section
section
variable {P:Program} {k:Nat} {b:Code} {α:Type}
theorem aE.find(S:Nat→St)(R1:Nat→α→St)(R2:St)(e1 e2:Ex)(h1:e1 ≠ .normal)(h2:e2 ≠ .normal)(p:α→Bool)(l:List α)
  (hs:∀ (i:Nat) (x:α),l[i]? = some x→p x=false→aC P k b (S i) .normal (S (i+1)))
  (hq:∀ (i:Nat) (x:α),l[i]? = some x→p x=true→aC P k b (S i) e1 (R1 i x))
  (hx:aC P k b (S l.length) e2 R2) :
  (∃ i x,l[i]? = some x∧l.findIdx? p=some i∧p x=true∧aE P k b (S 0) e1 (R1 i x))∨(l.findIdx? p=none∧l.any p=false∧aE P k b (S 0) e2 R2):=by
 have key:∀ (r:List α) (i:Nat),l.drop i=r→i≤l.length→(∃ j x,l[i+j]? = some x∧r.findIdx? p=some j∧p x=true∧aE P k b (S i) e1 (R1 (i+j) x))∨(r.findIdx? p=none∧r.any p=false∧aE P k b (S i) e2 R2):=by
  intro r
  induction r with
  | nil =>
   intro i hd hi;have:i=l.length:=by have:=congrArg List.length hd;simp at this;omega
   subst this;exact .inr ⟨rfl,rfl,.exit hx h2⟩
  | cons x r ih =>
   intro i hd hi;have hl:l[i]? = some x:=by
    have:=congrArg (·[0]?) hd
    simpa using this
   have hlt:i<l.length:=(B3.1 hl).1;cases hp:p x with
   | true=>exact .inl ⟨0,x,by simpa using hl,by simp [List.findIdx?_cons,hp],hp,.exit (hq i x hl hp) h1⟩
   | false =>
    have R8:l.drop (i+1)=r:=by
     have:=congrArg List.tail hd;simpa [List.tail_drop] using this
    rcases ih (i+1) R8 (by omega) with ⟨j,y,q1,q2,q3,q4⟩ | ⟨q1,q2,q3⟩
    ·refine .inl ⟨j+1,y,by rw [← q1];congr 1;omega,by simp [List.findIdx?_cons,hp,q2],q3,?_⟩
     rw [show i+(j+1)=i+1+j by omega]
     exact .step (hs i x hl hp) q4
    ·exact .inr ⟨by simp [List.findIdx?_cons,hp,q1],by simp [hp,q2],.step (hs i x hl hp) q3⟩
 rcases key l 0 (by simp) (Nat.zero_le _) with ⟨j,x,q1,q2,q3,q4⟩ | q
 ·exact .inl ⟨j,x,by simpa using q1,q2,q3,by simpa using q4⟩
 ·exact .inr q
end
theorem aE.times{P:Program}{k:Nat}{b:Code}{β:Type}{e:Ex}(S:Nat→β→St)(R:β→St)(f:β→Nat→β)(Inv:Nat→β→Prop)(he:e ≠ .normal)(n:Nat){a0:β}(h0:Inv 0 a0)
  (hs:∀ (i:Nat) (acc:β),i<n→Inv i acc→Inv (i+1) (f acc i)∧aC P k b (S i acc) .normal (S (i+1) (f acc i)))
  (hx:∀ acc,Inv n acc→aC P k b (S n acc) e (R acc)):aE P k b (S 0 a0) e (R ((List.range n).foldl f a0)):=by
 refine aE.range S R f Inv he (List.range n) h0 (fun i x acc hl hI => ?_) (fun acc hI => ?_)
 ·obtain ⟨h1,rfl⟩:=B3.1 hl
  rw [List.getElem_range];exact hs i acc (by simpa using h1) hI
 ·rw [aGv] at hI ⊢
  exact hx acc hI
def bJ{α:Type}(p:α→Bool)(l:List α):Int:=match l.findIdx? p with
 | some i=>(i:Int)
 | none => -1
theorem eF{α:Type}{p:α→Bool}{l:List α}{i:Nat}(h:l.findIdx? p=some i):bJ p l=(i:Int):=by unfold bJ;rw [h]
theorem gS{α:Type}{p:α→Bool}{l:List α}(h:l.findIdx? p=none):bJ p l = -1:=by unfold bJ;rw [h]
theorem lZ{α:Type}(p:α→Bool)(l:List α):decide (bJ p l ≥ 0)=l.any p:=by
 unfold bJ;cases h:l.findIdx? p with
 | none =>
  have:l.any p=false:=by simpa using h
  simp [this]
 | some i =>
  have:l.any p=true:=by
   have h2:(l.findIdx? p).isSome=true:=by rw [h];rfl
   rwa [List.findIdx?_isSome] at h2
  simp [this]
def uni(k:Nat)(L:Lqq):Prop:=∀ x∈L,x.length=k
theorem aEn{k:Nat}{x:List Int}{L:Lqq}(h:uni k (x::L)):uni k L:=fun y hy=>h y (Cj _ hy)
theorem aKz{k:Nat}:∀ {L:Lqq} (i:Nat),uni k L→(L.flatten).drop (i*k)=(L.drop i).flatten
 | [],i,_=>by simp
 | x::L,0,_=>by simp
 | x::L,i+1,h=>by
  have hx:=h x (by simp)
  rw [vC,List.drop_succ_cons,← aKz i (aEn h),List.drop_append];rw [List.drop_eq_nil_of_le (by rw [hx,aGw];omega),List.nil_append]
  congr 1
  rw [hx,aGw];omega
theorem aLa{k:Nat}:∀ {L:Lqq} (i:Nat),uni k L→(L.flatten).take (i*k)=(L.take i).flatten
 | [],i,_=>by simp
 | x::L,0,_=>by simp
 | x::L,i+1,h=>by
  have hx:=h x (by simp)
  rw [vC,List.take_succ_cons,vC,← aLa i (aEn h),List.take_append];rw [List.take_of_length_le (by rw [hx,aGw];omega)]
  congr 2
  rw [hx,aGw];omega
theorem oW{k:Nat}:∀ {L:Lqq},uni k L→(L.flatten).length=L.length*k
 | [],_=>by simp
 | x::L,h=>by rw [vC,iF,oW (aEn h),h x (by simp),nX,aGw];omega
theorem bZx{k i:Nat}{L:Lqq}{x:List Int}(h:uni k L)(hx:L[i]? = some x):((L.flatten).drop (i*k)).take k=x:=by
 have hl:x.length=k:=h x (Bi hx);obtain ⟨hi,he⟩:=B3.1 hx;rw [aKz i h,aKx hi,vC,he,List.take_append_of_le_length (by omega),List.take_of_length_le (by omega)]
theorem jP{k i:Nat}{L:Lqq}{x:List Int}(h:uni k L)(hx:L[i]? = some x):i*k+k≤(L.flatten.map aA).length:=by
 obtain ⟨hi,_⟩:=B3.1 hx;rw [Cb,oW h];have:(i+1)*k≤L.length*k:=Nat.mul_le_mul_right _ hi;rw [aGw] at this;exact this
theorem iA{k i:Nat}{L:Lqq}{x:List Int}(h:uni k L)(hx:L[i]? = some x):some (PV.agg (((L.flatten.map aA).drop (i*k)).take k))=some (.agg (x.map aA)):=by
 rw [← List.map_drop,← List.map_take,bZx h hx]
theorem bE{k i f:Nat}{L:Lqq}{x:List Int}{y:Int}(h:uni k L)(hx:L[i]? = some x)(hy:x[f]? = some y):(L.flatten.map aA)[i*k+f]? = some (aA y):=by
 have hl:x.length=k:=h x (Bi hx);have hf:f<k:=by rw [← hl];exact (B3.1 hy).1
 have:=congrArg (·[f]?) (bZx h hx)
 simp only [List.getElem?_take,hf,if_true,List.getElem?_drop] at this
 rw [fR,this,hy];rfl
theorem tF{k i:Nat}{L:Lqq}{x:List Int}(h:uni k L)(hi:i<L.length)(hx:x.length=k):((L.flatten.map aA).take (i*k)++x.map aA++(L.flatten.map aA).drop (i*k+k))=((L.set i x).flatten.map aA):=by
 have e:i*k+k=(i+1)*k:=by rw [aGw]
 rw [← List.map_take,← List.map_drop,← fM,← fM,aLa i h,e,aKz (i+1) h];rw [List.set_eq_take_append_cons_drop,if_pos hi,aPn,vC,List.append_assoc]
theorem aZc{k i:Nat}{L:Lqq}{x:List Int}(h:uni k L)(hx:x.length=k):uni k (L.set i x):=fun y hy=>by
 rcases List.mem_or_eq_of_mem_set hy with h1 | rfl
 ·exact h y h1
 ·exact hx
theorem len2{x:List Int}(h:x.length=2):∃ a b,x=[a,b]:=by
 match x,h with
 | [a,b],_=>exact ⟨a,b,rfl⟩
theorem gD{k:Nat}{L:Lqq}{i:Int}{x:List Int}(hk:0<k)(hu:uni k L)(h0:0≤i)(h:L[i.toNat]? = some x):0≤i∧i<(L.length:Int)∧i.toNat*k<(L.flatten.map aA).length:=by
 have h1:=jP hu h;obtain ⟨h2,_⟩:=B3.1 h;exact ⟨h0,by omega,by omega⟩
theorem aH{n:Nat}(h:n≤1000000):inR ((n:Nat):Int):=by unfold inR;omega
theorem aO{α:Type}{l:List α}{i:Nat}{x:α}(h:l[i]? = some x):i<l.length:=(B3.1 h).1
abbrev small(n:Nat):Prop:=n<1000000
theorem gfl{k i:Nat}{L:Lqq}{x:List Int}{l:List Prop}(hu:uni k L)(h:L[i]? = some x)(g:bC (out l))(hk:0<k:=by decide):bC (out ((some (PV.agg (((L.flatten.map aA).drop (i*k)).take k))=some (.agg (x.map aA)))::(i*k+k≤(L.flatten.map aA).length)::(0≤(i:Int)∧(i:Int)<(L.length:Int)∧(i:Int).toNat*k<(L.flatten.map aA).length)::l)):=gc (iA hu h) (gc (jP hu h) (gc (gD hk hu (Br _) (by rwa [aPo])) g))
theorem gfz{k:Nat}{z:Int}{L:Lqq}{x:List Int}{l:List Prop}(hu:uni k L)(h0:0≤z)(h:L[z.toNat]? = some x)(g:bC (out l))(hk:0<k:=by decide):bC (out ((some (PV.agg (((L.flatten.map aA).drop (z.toNat*k)).take k))=some (.agg (x.map aA)))::(z.toNat*k+k≤(L.flatten.map aA).length)::(0≤z∧z<(L.length:Int)∧z.toNat*k<(L.flatten.map aA).length)::l)):=gc (iA hu h) (gc (jP hu h) (gc (gD hk hu h0 h) g))
end
end KV
end Go.Proofs
section
namespace Go.Proofs
open Go.ChangeShapes Go.WideShapes Go.ChangeAt Go.RowKit
namespace KV
open Tryz
variable {P:Program} {W W':World}

def CxW(W:World):Cx:={ ι:=fun _=>none,κ:=fun _=>0,F:=fun b=>b<W.heap.size }
theorem cLg(W:World):aT P (CxW W) [] W:=⟨fun i ty n cs h=>by simp at h,fun i ty cs h=>by simp at h,fun i es cl h=>by simp at h,fun i i' o o' b h=>by simp at h,fun i o b h=>by simp at h,fun b h=>h,fun i o b h=>by simp at h⟩

theorem FV.law{f:Nat}{args:List AV}{us:List Value}(h:∀ base:Nat,FV P f args base (.p (blP true)) [])(hn:kL args=true)(hus:dD (CxW W) [] W args us):Calls P f us.toArray W fun e W'=>e = .returned (.bool true)∧Below W.heap.size W W':=by
 have hc:=(h 0).fc (bs:=[]) hn [] (fun p hp=>by simp at hp) rfl
 refine (callsIn_wide (n:=0)).1 ((hc (fun j _=>by rw [gU];cases j <;> rfl) (CxW W) W us hus (cLg W) 0).mono ?_)
 rintro e w' ⟨u,rfl,C',hF,hM,hr⟩;cases hr with
 | p _ _ h =>
  cases h;exact ⟨rfl,hF.os,hF.tape,hF.out,hF.size,fun b hb=>hF.keep b hb fun id o ho=>by simp at ho⟩

section
variable {H:Type} {enc:TypeId × Value→H}
theorem vM(hl:laidOutB P=true)(hb:Below W.heap.size W W'):∀ {ts:List TypeId} {vs:List Value} {ds:List (DataW H)} {ps:List MemPlace},(ts.all fun t=>P.readableRec t && decide (t<P.types.size))=true→DataW.TrodAll enc P W 0 (fun _=>true) true ts vs ds ps→(∀ x∈ps,x.block<W.heap.size) →
  DataW.TrodAll enc P W' 0 (fun b=>decide (b<W.heap.size)) true ts vs ds ps
 | [],[],[],_,_,h,_=>h
 | t::ts,v::vs,d::ds,ps,hr,⟨p,q,h1,h2,e⟩,hlt=>by
  rw [List.all_cons,B7,B7,decide_eq_true_eq] at hr
  subst e;exact ⟨p,q,Below.trod hl hr.1.1 hr.1.2 h1 hb (fun x hx=>hlt x (oV _ hx)),vM hl hb hr.2 h2 (fun x hx=>hlt x (aBw _ hx)),rfl⟩
 | [],_::_,_,_,_,h,_=>h.elim
 | _::_,[],_,_,_,h,_=>h.elim
 | [],[],_::_,_,_,h,_=>h.elim
 | _::_,_::_,[],_,_,h,_=>h.elim

theorem bBc{a:Addr}{v:Value}(h:W.cell? (a.add 0)=some v):a=⟨a.block,a.off,none⟩:=by
 obtain ⟨b,o,s⟩:=a;cases s with
 | none=>rfl
 | some x =>
  unfold World.cell? at h
  simp only [Addr.add,if_true] at h
  split at h <;> simp at h

end
end KV
end Go.Proofs
end
section
namespace Go.Proofs
open Go.ChangeShapes Go.WideShapes Go.ChangeAt Go.RowKit Go.Deep
namespace KV
open Tryz
section
variable {P:Program} {W W':World} {H:Type} {enc:TypeId × Value→H}
theorem bTn{n:Nat}(hn:n=0):cM (CxW W).F W (.sl n []) (.slice none 0 0):=by
 subst hn;exact .sl 0 [] none 0 (fun _=>undef) (dG _) (Nat.zero_le _) (fun i h=>by simp at h) (fun i h=>by simp at h) (fun i h=>by simp at h)
theorem cAg{n:Int}(h:(Lit.int .i64 n).wf=true):inR n:=by
 have e1:IntKind.i64.min = -9223372036854775808:=rfl;have e2:IntKind.i64.max=9223372036854775807:=rfl;have h':(decide (IntKind.i64.min≤n) && decide (n≤IntKind.i64.max))=true:=h;rw [B7,decide_eq_true_eq,decide_eq_true_eq,e1,e2] at h'
 unfold inR;omega
def aHg(P:Program)(fs:Array Field):Prop:=∀ (j:Nat) (f:Field),fs[j]? = some f→f.offset=j∧P.cellsOf f.type=1∧P.underlying f.type=some (.int .i64)
theorem aJy{e:TypeId}{fs:Array Field}{fuel:Nat}{cs:List Value}{x:DataW H × List MemPlace}(he:P.underlying e=some (.struct fs))(ce:P.cellsOf e=fs.size)(hF:aHg P fs)
  (h:DataW.trod enc P W 0 (fun _=>true) true fuel e cs=some x):∃ L:List Int,L.length=fs.size∧cs=L.map (Value.int .i64):=by
 obtain ⟨xs,n,_,_,hl,hxl,hf⟩:=DataW.trod_struct he h;rw [ce] at hl
 have each:∀ j,j<fs.size→∃ z:Int,cs[j]? = some (.int .i64 z):=fun j hj=>by
  obtain ⟨f,hfj⟩:∃ f,fs[j]? = some f:=⟨fs[j],rL hj⟩;obtain ⟨o,c,u⟩:=hF j f hfj;have g:=hf j f hfj;have hxj:j<xs.length:=by omega
  rw [o,c,Av hxj] at g
  obtain ⟨z,e,_⟩:=DataW.trod_int u g;refine ⟨z,?_⟩;have:(cs.drop j)[0]? = some (.int .i64 z):=by
   have e0:=congrArg (fun l:List Value=>l[0]?) e
   simp only [List.getElem?_cons_zero] at e0
   rw [bUe (by omega)] at e0
   exact e0
  simpa using this
 obtain ⟨z,hz⟩:=choose_lt each;refine ⟨(List.range fs.size).map z,by simp,?_⟩
 apply List.ext_getElem?;intro j
 by_cases hj:j<fs.size
 ·rw [hz j hj];simp [hj]
 ·simp [hj];omega
theorem aCu{t e:TypeId}{fs:Array Field}{fuel:Nat}{cs:List Value}{x:DataW H × List MemPlace}(ht:P.underlying t=some (.slice e))(he:P.underlying e=some (.struct fs))(ce:P.cellsOf e=fs.size)(hk:0<fs.size)(hF:aHg P fs)
  (h:DataW.trod enc P W 0 (fun _=>true) true fuel t cs=some x):∃ (l:Lqq) (u:Value),cs=[u]∧uni fs.size l∧cM (CxW W).F W (.sl l.length (l.flatten.map aA)) u∧u.oneCell'=true:=by
 rcases open_slice ht h with ⟨hcs,_⟩ | ⟨a,len,cap,m,n,D,Pl,hcs,hb,hl,hm,hmm,hx,hr⟩
 ·exact ⟨[],_,hcs,fun x hx=>by simp at hx,bTn rfl,rfl⟩
 ·simp only [if_true] at hmm
  subst hmm;have each:∀ i,i<m→∃ L:List Int,L.length=fs.size∧∀ j,j<fs.size→W.cell? (a.add (i*fs.size+j))=some (.int .i64 (L.getD j 0)):=fun i hi=>by
   obtain ⟨Bp,h1,h2⟩:=hr i hi;rw [ce] at h1
   obtain ⟨_,hlen,hcell⟩:=World.cells?_some h1;obtain ⟨L,q1,q2⟩:=aJy he ce hF h2;refine ⟨L,q1,fun j hj => ?_⟩
   have:=hcell j hj;rw [add_add,q2,fR,Av (by omega)] at this
   rw [this,Bv,Av (by omega)]
   rfl
  obtain ⟨Z,hZ⟩:=choose_lt each;have hu:uni fs.size ((List.range len).map Z):=fun x hx=>by
   obtain ⟨i,hi,rfl⟩:=Bs.1 hx;exact (hZ i (by have:=iJ.1 hi;omega)).1
  have hfl:=oW hu;have hlen:((List.range len).map Z).length=len:=by simp
  have hcell:∀ c,c<len*fs.size→W.cell? (a.add c)=some (.int .i64 ((Z (c / fs.size)).getD (c % fs.size) 0)):=fun c hc=>by
   have h1:c / fs.size<len:=(Nat.div_lt_iff_lt_mul hk).2 hc;have h2:c % fs.size<fs.size:=aPq _ hk;have:=(hZ (c / fs.size) (by omega)).2 (c % fs.size) h2
   rwa [Nat.div_add_mod'] at this
  refine ⟨(List.range len).map Z,_,hcs,hu,?_,rfl⟩;rw [hlen] at hfl ⊢
  refine .sl len _ (some a) m (fun c => .int .i64 ((Z (c / fs.size)).getD (c % fs.size) 0)) hl hm (fun i hi => ?_) (fun i hi => ?_) (fun i hi=>rfl)
  ·have Cs:i<len*fs.size:=by rw [Cb,hfl] at hi;exact hi
   have q1:=bBc (hcell 0 (by omega))
   have q2:=hcell i Cs;rw [q1,Addr.add_lit] at q2
   exact ⟨a.block,a.off,by rw [← q1],World.block_lt_of_cell? W ⟨a.block,a.off+i,none⟩ q2,q2⟩
  ·have Cs:i<len*fs.size:=by rw [Cb,hfl] at hi;exact hi
   have h1:i / fs.size<len:=(Nat.div_lt_iff_lt_mul hk).2 Cs;have h2:i % fs.size<fs.size:=aPq _ hk;have hzl:=(hZ (i / fs.size) (by omega)).1
   have hx:((List.range len).map Z)[i / fs.size]? = some (Z (i / fs.size)):=by simp [h1]
   have hy:(Z (i / fs.size))[i % fs.size]? = some ((Z (i / fs.size)).getD (i % fs.size) 0):=by
    rw [Bv,Av (by omega)];rfl
   have:=bE hu hx hy;rw [Nat.div_add_mod'] at this
   rw [Av hi] at this
   rw [Option.some.inj this];exact .v _
theorem bMz{t ti ts td es ed:TypeId}{f0 f1 f2:Field}{gs gd:Array Field}{v:Value}{d:DataW H}{ps:List MemPlace}{base:Nat}(ht:P.underlying t=some (.struct #[f0,f1,f2]))
  (hi:P.underlying ti=some (.int .i64)) (hs:P.underlying ts=some (.slice es)) (hd:P.underlying td=some (.slice ed)) (hes:P.underlying es=some (.struct gs)) (hed:P.underlying ed=some (.struct gd))
  (ns:gs.size=2) (nd:gd.size=6) (ces:P.cellsOf es=2) (ced:P.cellsOf ed=6) (hFs:aHg P gs) (hFd:aHg P gd) (ci:P.cellsOf ti=1) (cs:P.cellsOf ts=1) (cd:P.cellsOf td=1) (ct:P.cellsOf t=3)
  (t0:f0.type=ti) (t1:f1.type=ts) (t2:f2.type=td) (o0:f0.offset=0) (o1:f1.offset=1) (o2:f2.offset=2)
  (hok:Value.okWide P W .any base t v) (h:DataW.Trod enc P W 0 (fun _=>true) true t v d ps):∃ (dl:Int) (sk dc:Lqq),(Lit.int .i64 dl).wf=true∧uni 2 sk∧uni 6 dc∧cM (CxW W).F W (.agg [aA dl,.sl sk.length (sk.flatten.map aA),.sl dc.length (dc.flatten.map aA)]) v:=by
 obtain ⟨Bp,rfl,hsz⟩:=okWide_struct ht hok;obtain ⟨fuel,hf⟩:=h;obtain ⟨xs,n,_,_,hl,hx,hg⟩:=DataW.trod_struct ht hf;have hcs:(Value.agg Bp).cells.toList=Bp.toList:=by simp [Value.cells]
 rw [hcs] at hg hl
 rw [ct] at hsz
 obtain ⟨l⟩:=Bp
 match l,hsz with
 | [u0,u1,u2],_ =>
  match xs,hx with
  | [x0,x1,x2],_ =>
   have g0:=hg 0 f0 rfl;have g1:=hg 1 f1 rfl;have g2:=hg 2 f2 rfl;rw [t0,o0,ci] at g0
   rw [t1,o1,cs] at g1
   rw [t2,o2,cd] at g2
   simp only [List.drop,List.take,List.getElem?_cons_zero,List.getElem?_cons_succ] at g0 g1 g2
   obtain ⟨n0,e0,_,w0⟩:=DataW.trod_int hi g0;obtain ⟨sk,p1,e1,q1,r1,s1⟩:=aCu hs hes (by omega) (by omega) hFs g1
   obtain ⟨dc,p2,e2,q2,r2,s2⟩:=aCu hd hed (by omega) (by omega) hFd g2
   simp only [List.cons.injEq,and_true] at e0 e1 e2
   subst e0 e1 e2;rw [ns] at q1
   rw [nd] at q2
   refine ⟨n0,sk,dc,w0,q1,q2,.agg _ _ (fun i hi => ?_) rfl (fun i hi => ?_)⟩
   ·match i,hi with
    | 0,_=>rfl
    | 1,_=>exact s1
    | 2,_=>exact s2
   ·match i,hi with
    | 0,_=>exact .v _
    | 1,_=>exact r1
    | 2,_=>exact r2
end
end KV
end Go.Proofs
end
namespace Go.Proofs
namespace KV
open Tryz
section
section
variable {l:Lqq} {j i:Nat} {xs:List Int} {v:Int}
end
end
end KV
end Go.Proofs
section
namespace Go.Proofs
open Go.RowKit
namespace KV
open Tryz
variable {P:Program} {C C0:Cx} {M M0:Mem} {w w0:World}

def mU(w:World)(b:Nat):Prop:=∃ o:Obj,w.heap[b]? = some o∧o.isCells=true
theorem wU{b o:Nat}{v:Value}(h:w.cell? ⟨b,o,none⟩=some v):mU w b:=cells_of_cell h
theorem fW{b ty:Nat}{arr:Array Value}{fr:Nat × Nat}(h:w.heap[b]? = some (.cells arr ty fr)):mU w b:=⟨_,h,rfl⟩

mutual
def nmP:PV→Bool
 | .v _=>true
 | .sl _ cs=>kW cs
 | .agg cs=>kW cs
 | .mp _=>false
 | .rp cs _=>kW cs
def kW:List PV→Bool
 | []=>true
 | x::r=>nmP x && kW r
end
theorem rP:∀ {l:List PV},kW l=true→∀ (i:Nat) (h:i<l.length),nmP l[i]=true
 | [],_,i,h=>by simp at h
 | x::r,hl,i,h=>by
  rw [kW,B7] at hl
  cases i with
  | zero=>exact hl.1
  | succ i=>exact rP hl.2 i (by simpa using h)
theorem aEz{α:Type}(g:α→PV)(h:∀ x,nmP (g x)=true):∀ l:List α,kW (l.map g)=true
 | []=>rfl
 | x::r=>by rw [fZ,kW,h,aEz g h r];rfl
mutual
def nmA:AV→Bool
 | .p x=>nmP x
 | .rp cs _=>kW cs
 | .agg l=>nmL l
 | .tup l=>nmL l
 | .fn _ a b=>nmL a && nmL b
 | _=>true
def nmL:List AV→Bool
 | []=>true
 | x::r=>nmA x && nmL r
end
theorem wV:∀ {l:List AV},nmL l=true→∀ (i:Nat) (h:i<l.length),nmA l[i]=true
 | [],_,i,h=>by simp at h
 | x::r,hl,i,h=>by
  rw [nmL,B7] at hl
  cases i with
  | zero=>exact hl.1
  | succ i=>exact wV hl.2 i (by simpa using h)
def nmM:Mem→Bool
 | []=>true
 | some (.row _ _ cs)::r=>kW cs && nmM r
 | some (.box _ l)::r=>nmL l && nmM r
 | _::r=>nmM r
theorem aFa:∀ {m:Mem},nmM m=true→(∀ (i ty n:Nat) (cs:List PV),m[i]? = some (some (.row ty n cs))→kW cs=true)∧∀ (i ty:Nat) (l:List AV),m[i]? = some (some (.box ty l))→nmL l=true
 | [],_=>⟨fun i ty n cs h=>by simp at h,fun i ty l h=>by simp at h⟩
 | x::r,hm=>by
  have hr:nmM r=true:=by
   cases x with
   | none=>exact hm
   | some o=>cases o <;> simp [nmM] at hm <;> first | exact hm.2 | exact hm
  obtain ⟨h1,h2⟩:=aFa hr;refine ⟨fun i ty n cs h => ?_,fun i ty l h => ?_⟩
  ·cases i with
   | zero=>simp at h;subst h;simp [nmM] at hm;exact hm.1
   | succ i=>exact h1 i ty n cs (by simpa using h)
  ·cases i with
   | zero=>simp at h;subst h;simp [nmM] at hm;exact hm.1
   | succ i=>exact h2 i ty l (by simpa using h)
theorem cM.shrink{F F':Nat→Prop}{x:PV}{u:Value}(h:cM F w x u)(hF:∀ b,F b→mU w b→F' b)(hm:nmP x=true):cM F' w x u:=by
 induction h with
 | v x=>exact .v x
 | sl n cs p cap us h1 h2 h3 _ h5 ih =>
  rw [nmP] at hm
  refine .sl n cs p cap us h1 h2 (fun i hi => ?_) (fun i hi=>ih i hi (rP hm i hi)) h5
  obtain ⟨b,o,hp,hb,hc⟩:=h3 i hi;exact ⟨b,o,hp,hF b hb (wU hc),hc⟩
 | agg cs vs h0 h1 _ ih =>
  rw [nmP] at hm
  exact .agg cs vs h0 h1 fun i hi=>ih i hi (rP hm i hi)
 | mp=>simp [nmP] at hm
 | rp cs off b o us h1 _ h3 ih =>
  rw [nmP] at hm
  exact .rp cs off b o us (fun i hi=>⟨hF b (h1 i hi).1 (wU (h1 i hi).2),(h1 i hi).2⟩) (fun i hi=>ih i hi (rP hm i hi)) h3
theorem Rep.shrink{F':Nat→Prop}{x:AV}{u:Value}(h:Rep C M w x u)(hF:∀ b,C.F b→mU w b→F' b)(hm:nmA x=true):Rep ⟨C.ι,C.κ,F',[]⟩ M w x u:=by
 induction h with
 | p x u h=>exact .p x u (h.shrink hF (by simpa [nmA] using hm))
 | any u=>exact .any u
 | kb b=>exact .kb b
 | yld l=>exact .yld l
 | own id u h0 ha h=>exact .own id u h0 ha h
 | arr id off n u h0 ha h=>exact .arr id off n u h0 ha h
 | ptr id off u h0 ha h hp=>exact .ptr id off u h0 ha h hp
 | mp id u h0 ha h=>exact .mp id u h0 ha h
 | pa id q u h0 ha h=>exact .pa id q u h0 ha h
 | rp cs off b o us h1 h2 h3 =>
  have Dr:kW cs=true:=by simpa [nmA] using hm
  exact .rp cs off b o us (fun i hi=>⟨hF b (h1 i hi).1 (wU (h1 i hi).2),(h1 i hi).2⟩) (fun i hi=>(h2 i hi).shrink hF (rP Dr i hi)) h3
 | agg cs vs h0 h1 _ ih =>
  have Dr:nmL cs=true:=by simpa [nmA] using hm
  exact .agg cs vs h0 h1 fun i hi=>ih i hi (wV Dr i hi)
 | tup cs vs h1 _ ih =>
  have Dr:nmL cs=true:=by simpa [nmA] using hm
  exact .tup cs vs h1 fun i hi=>ih i hi (wV Dr i hi)
 | fn f cs ds us vs h1 h2 _ _ I8 Hw =>
  have Dr:nmL cs=true∧nmL ds=true:=by simpa [nmA] using hm
  exact .fn f cs ds us vs h1 h2 (fun i hi=>I8 i hi (wV Dr.1 i hi)) fun i hi=>Hw i hi (wV Dr.2 i hi)

def aBi(M:Mem):Prop:=(∀ (i:Nat) (es:List (Value × PV)) (cl:Nat),M[i]? ≠ some (some (.mp es cl)))∧aSp M
def gK:Mem→Bool
 | []=>true
 | some (.pk _ _ _ _)::_=>false
 | some (.mp _ _)::_=>false
 | _::r=>gK r
theorem eH:∀ {m:Mem},gK m=true→aBi m
 | [],_=>⟨fun i es cl h=>by simp at h,fun i o h=>by simp at h⟩
 | none::r,hm=>by
  obtain ⟨h1,h2⟩:=eH (m:=r) hm;refine ⟨fun i es cl h => ?_,fun i o h => ?_⟩
  ·cases i with
   | zero=>simp at h
   | succ i=>exact h1 i es cl (by simpa using h)
  ·cases i with
   | zero=>simp at h
   | succ i=>exact h2 i o (by simpa using h)
 | some x::r,hm=>by
  have hr:gK r=true∧x.isPk=false∧∀ es cl,x ≠ .mp es cl:=by
   cases x with
   | pk=>simp [gK] at hm
   | mp=>simp [gK] at hm
   | _=>exact ⟨by simpa [gK] using hm,rfl,fun _ _ e=>by cases e⟩
  obtain ⟨h1,h2⟩:=eH (m:=r) hr.1;refine ⟨fun i es cl h => ?_,fun i o h => ?_⟩
  ·cases i with
   | zero=>simp at h;exact hr.2.2 _ _ h
   | succ i=>exact h1 i es cl (by simpa using h)
  ·cases i with
   | zero=>simp at h;rw [← h];exact hr.2.1
   | succ i=>exact h2 i o (by simpa using h)

theorem wW{M':Mem}{W:World}(hn:aBi M')(hq:nmM M'=true)(hF:∀ b,C.F b→b<w.heap.size){C':Cx}(hM:aT P C' M' W)(f:Fr C M w C' M' W) :
  ∃ C'',aT P C'' M' W∧Fr C M w C'' M' W∧(∀ b,C''.F b→b<w.heap.size∨mU W b):=by
 refine ⟨⟨C'.ι,C'.κ,fun b=>C'.F b∧(b<w.heap.size∨mU W b),[]⟩,⟨fun i ty n cs hm => ?_,fun i ty cs hm => ?_,fun i es cl hm=>absurd hm (hn.1 _ _ _),hM.inj,fun i o b ho hl hb hf=>hM.nF i o b ho hl hb hf.1,fun b hb=>hM.Fs b hb.1,hM.lt⟩,
  ⟨f.os,f.tape,f.out,f.size,f.keep,f.ids,f.row,f.liv,f.new,fun b hb=>⟨f.F1 b hb,.inl (hF b hb)⟩,fun b hb=>f.F2 b hb.1⟩,fun b hb=>hb.2⟩
 ·rcases hM.row _ _ _ _ hm with h4 | ⟨b,arr,inf,q0,q1,q2,q3,q4,q5,q6,q7,q8⟩
  ·exact .inl h4
  ·exact .inr ⟨b,arr,inf,q0,q1,q2,q3,q4,q5,q6,fun j hj=>(q7 j hj).shrink (fun b hb hs=>⟨hb,.inr hs⟩) (rP ((aFa hq).1 _ _ _ _ hm) j hj),q8⟩
 ·obtain ⟨b,arr,q0,q1,q2,q3,q4⟩:=hM.box _ _ _ hm
  exact ⟨b,arr,q0,q1,q2,fun j hj=>(q3 j hj).shrink (fun b hb hs=>⟨hb,.inr hs⟩) (wV ((aFa hq).2 _ _ _ hm) j hj),q4⟩

def bHo(P:Program)(C:Cx)(M:Mem)(w:World)(M':Mem)(W:World):Prop:=∃ C',aT P C' M' W∧Fr C M w C' M' W

theorem kH{W:World}{b:Nat}{o:Obj}(h:W.heap[b]? = some o)(ho:o.isCells=false):¬ mU W b:=fun ⟨o',h',hc⟩=>by rw [h] at h';cases h';rw [ho] at hc;cases hc

theorem bHo.own{M':Mem}{W W':World}{row:Option Nat}(hn:aBi M')(hq:nmM M'=true)(hF:∀ b,C.F b→b<w.heap.size)(h:bHo P C M w M' W)(hg:W.grownBy W' row)
  (hr:∀ r,row=some r→w.heap.size≤r∧∃ o:Obj,W.heap[r]? = some o∧o.isCells=false):bHo P C M w M' W':=by
 obtain ⟨C1,h1,h2⟩:=h;obtain ⟨C',hM,f,hS⟩:=wW hn hq hF h1 h2;have hsame:∀ b,b<W.heap.size→(b<w.heap.size∨mU W b)→W'.heap[b]? = W.heap[b]? := fun b hb hd=>hg.block b hb (fun e=>by
  obtain ⟨q1,o,q2,q3⟩:=hr b e.symm
  rcases hd with hd | hd
  ·omega
  ·exact kH q2 q3 hd)
 have hFz:∀ b,C'.F b→W'.heap[b]? = W.heap[b]? := fun b hb=>hsame b (hM.Fs b hb) (hS b hb)
 have hL:Le C' C' M' M' W W':=⟨fun _ o h=>⟨o,h⟩,fun _ _ _ _ _ cs h=>⟨cs,h⟩,fun _ o h o' h' hl=>by rw [h] at h';cases h';exact ⟨hl,rfl,rfl⟩,fun _ h=>h,hFz⟩
 refine ⟨C',⟨fun i ty n cs hm => ?_,fun i ty cs hm => ?_,fun i es cl hm=>absurd hm (hn.1 _ _ _),hM.inj,hM.nF,fun b hb=>fY (hM.Fs b hb) hg.size,fun i o b ho hl hb=>fY (hM.lt i o b ho hl hb) hg.size⟩,
  ⟨hg.os.trans f.os,hg.tape.trans f.tape,hg.output.trans f.out,fB f.size hg.size,fun b hb hno=>(hsame b (fY hb f.size) (.inl hb)).trans (f.keep b hb hno),f.ids,f.row,f.liv,f.new,f.F1,f.F2⟩⟩
 ·rcases hM.row _ _ _ _ hm with h4 | ⟨b,arr,inf,q0,q1,q2,q3,q4,q5,q6,q7,q8⟩
  ·exact .inl h4
  ·exact .inr ⟨b,arr,inf,q0,(hsame b (nA.1 q1).1 (.inr (fW q1))).trans q1,q2,q3,q4,q5,q6,fun j hj=>(q7 j hj).mono hL.F hL.fz,q8⟩
 ·obtain ⟨b,arr,q0,q1,q2,q3,q4⟩:=hM.box _ _ _ hm
  exact ⟨b,arr,q0,(hsame b (nA.1 q1).1 (.inr (fW q1))).trans q1,q2,fun j hj=>(q3 j hj).mono hL,q4⟩

structure KpG (F:Nat→Prop) (A B:World):Prop where
 size:A.heap.size≤B.heap.size
 same:∀ b,F b→B.heap[b]? = A.heap[b]?
theorem KpG.refl(F:Nat→Prop)(A:World):KpG F A A:=⟨dG _,fun _ _=>rfl⟩
theorem KpG.trans{F:Nat→Prop}{A B D:World}(h:KpG F A B)(k:KpG F B D):KpG F A D:=⟨fB h.size k.size,fun b hb=>(k.same b hb).trans (h.same b hb)⟩

def cEs(P:Program){α:Type}(g:AV)(encs:α→Array Value)(gf N:Nat)(S:List α→Prop):Prop:=∀ (C:Cx) (M:Mem) (w:World) (u:Value),Rep C M w g u→(∀ b,C.F b→b<w.heap.size) →
 ∃ lb Sp,u = .func (.func gf) #[] lb∧SeqStopsK Fence.wide 2 P gf lb encs (KpG C.F) S Sp N w

theorem bPr{ro:Option Nat}{n:Nat}:(Fen ro).room n:=fun d hd=>by cases hd
theorem aFb{ro:Option Nat}{n m:Nat}{c:Code}{Q:Exit→Act→World→Prop}{a:Act}(h:c.wpIn (Fen ro) n P Q a w):c.wpIn (Fen ro) m P Q a w:=fun b k cs hro hb _=>h b k cs hro hb bPr

theorem aLo{C:Cx}{M:Mem}{W:World}(hM:aT P C M W)(hn:aBi M){b:Nat}{o:Obj}(h:W.heap[b]? = some o)(ho:o.isCells=false):∀ (id:Nat) (x:AO),M[id]? = some (some x)→x.live=true→C.ι id≠some b:=fun id x hx hl hb=>by
 cases x with
 | row ty n cs =>
  rcases hM.row _ _ _ _ hx with ⟨h1,_⟩ | ⟨b',arr,i,h1,h2,_⟩
  ·rw [hb] at h1;cases h1
  ·rw [hb] at h1;cases h1;exact kH h ho (fW h2)
 | box ty cs =>
  obtain ⟨b',arr,h1,h2,_⟩:=hM.box _ _ _ hx;rw [hb] at h1;cases h1;exact kH h ho (fW h2)
 | mp es cl=>exact hn.1 _ _ _ hx
 | pk to ti sz L=>have:=hn.2 _ _ hx;cases this
 | dead=>cases hl

theorem Ps(p q:Nat)(a b:Value)(t:Array Value):(#[p,q].zip #[a,b]).foldl (fun t (x:Nat × Value)=>t.setIfInBounds x.1 x.2) t=(t.setIfInBounds p a).setIfInBounds q b:=by simp

end KV
end Go.Proofs
end
namespace Go.Proofs
namespace KV
open Tryz
section

theorem aE.count{P:Program}{k:Nat}{b:Code}{e:Ex}{R:St}(N:Nat)(S:Nat→St)(hs:∀ i,i<N→aC P k b (S i) .normal (S (i+1)))(hx:aC P k b (S N) e R)(he:e ≠ .normal):aE P k b (S 0) e R:=by
 have key:∀ d i,i+d=N→aE P k b (S i) e R:=by
  intro d
  induction d with
  | zero =>
   intro i hi;obtain rfl:i=N:=by omega
   exact .exit hx he
  | succ d ih=>intro i hi;exact .step (hs i (by omega)) (ih (i+1) (by omega))
 exact key N 0 (by omega)

theorem aE.until{P:Program}{k:Nat}{b:Code}{e:Ex}{R:St}(N:Nat)(S:Nat→St)(n:Nat)(hn:n≤N)(hs:∀ i,i<n→aC P k b (S i) .normal (S (i+1)))(hx:aC P k b (S n) e R)(he:e ≠ .normal):aE P k b (S 0) e R:=aE.count n S hs hx he

def fD(l:List Int):List (Value × PV):=l.map fun k=>(.int .i64 k,blP true)
theorem aVk(l:List Int)(k:Int):fD (l++[k])=fD l++[(.int .i64 k,blP true)]:=by unfold fD;rw [fM];rfl
theorem pF{n:Int}(hn : -1000000≤n∧n≤1000000):aOv .i64 (.int .i64 n)=true:=by
 show (decide (IntKind.i64=IntKind.i64) && (Lit.int .i64 n).wf)=true;have:(Lit.int .i64 n).wf=true:=by
  have e1:IntKind.i64.min = -9223372036854775808:=rfl;have e2:IntKind.i64.max=9223372036854775807:=rfl;simp only [Lit.wf,e1,e2,B7,decide_eq_true_eq];omega
 rw [this];rfl
theorem aVl{l:List Int}(hn:l.Nodup)(hb:∀ x∈l,-1000000≤x∧x≤1000000){x:Int}(hx : -1000000≤x∧x≤1000000):cP .i64 (fD l) (.int .i64 x):=by
 refine ⟨fun e he => ?_,pF hx,?_⟩
 ·obtain ⟨y,hy,rfl⟩:=Bs.1 he
  exact pF (hb y hy)
 ·unfold fD
  rw [vD];have:l.map ((fun e:Value × PV=>jO e.1) ∘ fun k=>(Value.int .i64 k,blP true))=l:=by
   conv=>rhs;rw [← List.map_id l]
   exact aBx fun x _=>rfl
  rw [this];exact hn
theorem bPp{l:List Int}{x:Int}(h:x∉l):dS (fD l) (.int .i64 x)=false:=by
 unfold dS;rw [List.any_eq_false];intro e he;obtain ⟨y,hy,rfl⟩:=Bs.1 he;intro h2;have h3:y=x:=of_decide_eq_true h2;exact h (h3 ▸ hy)
theorem bPq{l:List Int}{x:Int}(h:x∈l):dS (fD l) (.int .i64 x)=true:=by
 unfold dS;rw [List.any_eq_true];exact ⟨_,Bs.2 ⟨x,h,rfl⟩,decide_eq_true rfl⟩

theorem bHn{l:List Int}{x:Int}(h:x∈l):gB (fD l) (.int .i64 x)=some (blP true):=by
 induction l with
 | nil=>cases h
 | cons a l ih =>
  by_cases e:a=x
  ·subst e;simp [fD,gB]
  ·have h2:x∈l:=by rcases fU.1 h with h | h;exact absurd h.symm e;exact h
   have:=ih h2;simpa [fD,gB,jO,e] using this
def within(n lo hi:Int):Bool:=decide (lo≤n) && decide (n≤hi)
def aQ(f:Lqq)(j:Nat):List Int:=f.map fun x=>x.getD j 0
theorem A6{y:List Int}(h:y.length=6):∃ a b c d e f,y=[a,b,c,d,e,f]:=by
 match y,h with
 | [a,b,c,d,e,f],_=>exact ⟨a,b,c,d,e,f,rfl⟩
theorem at2{f:Lqq}(hu:uni 2 f){i:Nat}(hi:i<f.length):∃ a b,f[i]? = some [a,b]:=by
 obtain ⟨a,b,e⟩:=len2 (hu _ (fL hi));exact ⟨a,b,by rw [Av hi,e]⟩
theorem S0{f:Lqq}(hu:uni 6 f){i:Nat}(hi:i<f.length):∃ a b c d e g,f[i]? = some [a,b,c,d,e,g]:=by
 obtain ⟨a,b,c,d,e,g,h⟩:=A6 (hu _ (fL hi));exact ⟨a,b,c,d,e,g,by rw [Av hi,h]⟩
theorem aCk{α:Type}{p:α→Bool}{l:List α}:(!(decide (bJ (fun x => !p x) l ≥ 0)))=l.all p:=by
 rw [lZ,List.not_any_eq_all_not]
 congr 1
 funext x
 rw [Bool.not_not]
end
section
variable {r0:Bool}{n dl hi lo x0 x1 x2 x3 x4 x5 Aq Aa Ab:Int}{dc sk:Lqq}{l m o o' Rb Dp:List Int}{i i' Bm base:Nat}

noncomputable abbrev aEy:Code:=sub (cd Tryz.f108) [1,1,0,1,0,0]
noncomputable abbrev aZp:Code:=sub (cd Tryz.f109) [1,1,0,1,0,0]
noncomputable abbrev aZq:Code:=sub (cd Tryz.f110) [1,1,0,1,0,0]
theorem cKq(h0:lo≤n)(A4:r0=(decide (n≤hi))):FV Tp 103 [(pI n),(pI lo),(pI hi)] base (pB r0) []:=by
 subst A4;exact FV.fi func103 [bT,bT,bT,bT] (Aw (mA h0) gn)
theorem cKr(h0:n<lo):FV Tp 103 [(pI n),(pI lo),(pI hi)] base (pB false) []:=FV.fi func103 [bF,bF,bF,bF] (Aw (jG h0) gn)
theorem cC(n lo hi:Int){base:Nat}:FV Tp 103 [.p (aA n),.p (aA lo),.p (aA hi)] base (pB (within n lo hi)) []:=by
 by_cases h:lo≤n
 ·exact cKq h (by simp [within,h])
 ·have e:within n lo hi=false:=by simp [within,h]
  rw [e];exact cKr (show n<lo by omega)
theorem cEb{k:Int}(A4:r0=(decide (k≤4))):FV Tp 112 [(pI k)] base (pB r0) []:=by
 subst A4;exact FV.fi func112 [] gn
theorem eP(k:Int){base:Nat}:FV Tp 112 [.p (aA k)] base (pB (decide (k≤4))) []:=cEb rfl
theorem cEc(h0:(within x0 1 999)=true)(A4:r0=(within x1 (-1) 360000)):FV Tp 105 [(.p (.agg [(aA x0),(aA x1)]))] base (pB r0) []:=by
 subst A4;have k1:=fk 1 (cC x0 1 999) rfl;have k2:=fk 1 (cC x1 (-1) 360000) rfl;exact FV.fi func105 [k1.o,bT,bT,bT,k2.o,bT] (gc h0 (gc k2 (Ak h0 (gc k1 gn))))
theorem cEd(h0:(within x0 1 999)=false):FV Tp 105 [(.p (.agg [(aA x0),(aA x1)]))] base (pB false) []:=have k1:=fk 1 (cC x0 1 999) rfl;FV.fi func105 [k1.o,bF,bF,bF,bF] (Aw h0 (gc k1 gn))
def skB(x:List Int):Bool:=within (x.getD 0 0) 1 999 && within (x.getD 1 0) (-1) 360000
theorem cEe(x0 x1:Int){base:Nat}:FV Tp 105 [.p (.agg [aA x0,aA x1])] base (pB (skB [x0,x1])) []:=by
 cases h:within x0 1 999 with
 | true=>exact cEc h (show (within x0 1 999 && _)=_ by rw [h];rfl)
 | false=>rw [show skB [x0,x1]=false from show (within x0 1 999 && _)=_ by rw [h];rfl];exact cEd h
def mT(k:Int):Int:=if k=3∨¬ k≤4∧k≠6 then 0 else 36000
def dcB(x:List Int):Bool:=within (x.getD 0 0) 1 9999 && (within (x.getD 1 0) 0 9 && (within (x.getD 2 0) 0 10000 && within (x.getD 4 0) 0 (mT (x.getD 1 0))))
abbrev dcE(a b c d e f:Int):PV := .agg [aA a,aA b,aA c,aA d,aA e,aA f]
theorem gY(a b c d e f:Int):dcB [a,b,c,d,e,f]=(within a 1 9999 && (within b 0 9 && (within c 0 10000 && within e 0 (mT b)))):=rfl
theorem cEf(h0:x1=3)(h1:(within x0 1 9999)=true)(h2:(within x1 0 9)=true)(h3:(within x2 0 10000)=true)(A4:r0=(within x4 0 0)):FV Tp 107 [(.p (.agg [(aA x0),(aA x1),(aA x2),(aA x3),(aA x4),(aA x5)]))] base (pB r0) []:=by
 subst A4;have k1:=fk 1 (cC x0 1 9999) rfl;have k2:=fk 1 (cC x1 0 9) rfl;have k3:=fk 1 (cC x2 0 10000) rfl;have k4:=fk 1 (cC x4 0 0) rfl;exact FV.fi func107 (rT 7++[k1.o,bT,bT,bT,k2.o,bT,bT,bT,bT,k3.o]++rT 5++[k4.o,bT]) (gc h3 (gc k4 (Aw h3 (gc h2 (gc k3 (Ak h2 (gc h1 (gc k2 (Ak h1 (gc k1 (Kx (cH h0) gn)))))))))))
theorem cEg(h0:x1=3)(h1:(within x0 1 9999)=true)(h2:(within x1 0 9)=true)(h3:(within x2 0 10000)=false):FV Tp 107 [(.p (.agg [(aA x0),(aA x1),(aA x2),(aA x3),(aA x4),(aA x5)]))] base (pB false) []:=have k1:=fk 1 (cC x0 1 9999) rfl;have k2:=fk 1 (cC x1 0 9) rfl;have k3:=fk 1 (cC x2 0 10000) rfl;FV.fi func107 (rT 7++[k1.o,bT,bT,bT,k2.o,bT,bT,bT,bT,k3.o,bT]++rF 5) (Bo h3 (gc h2 (gc k3 (Ak h2 (gc h1 (gc k2 (Ak h1 (gc k1 (Kx (cH h0) gn)))))))))
theorem cEh(h0:x1=3)(h1:(within x0 1 9999)=true)(h2:(within x1 0 9)=false):FV Tp 107 [(.p (.agg [(aA x0),(aA x1),(aA x2),(aA x3),(aA x4),(aA x5)]))] base (pB false) []:=have k1:=fk 1 (cC x0 1 9999) rfl;have k2:=fk 1 (cC x1 0 9) rfl;FV.fi func107 (rT 7++[k1.o,bT,bT,bT,k2.o,bT,bF,bF,bF,bF]) (Aw h2 (gc h1 (gc k2 (Ak h1 (gc k1 (Kx (cH h0) gn))))))
theorem cEi(h0:x1=3)(h1:(within x0 1 9999)=false):FV Tp 107 [(.p (.agg [(aA x0),(aA x1),(aA x2),(aA x3),(aA x4),(aA x5)]))] base (pB false) []:=have k1:=fk 1 (cC x0 1 9999) rfl;FV.fi func107 (rT 7++[k1.o,bF,bF,bF,bF]) (Aw h1 (gc k1 (Kx (cH h0) gn)))
theorem cEj(h0:x1≠3)(h1:(decide (x1≤4))=false)(h2:x1≠6)(h3:(within x0 1 9999)=true)(h4:(within x1 0 9)=true)(h5:(within x2 0 10000)=true)(A4:r0=(within x4 0 0)):FV Tp 107 [(.p (.agg [(aA x0),(aA x1),(aA x2),(aA x3),(aA x4),(aA x5)]))] base (pB r0) []:=by
 subst A4;have k1:=fk 1 (eP x1) rfl;have k2:=fk 1 (cC x0 1 9999) rfl;have k3:=fk 1 (cC x1 0 9) rfl;have k4:=fk 1 (cC x2 0 10000) rfl;have k5:=fk 1 (cC x4 0 0) rfl;exact FV.fi func107 ([bF,bF,bF,k1.o,bF,bF,bT,bT,bT,bF,bT,bF,bT,k2.o,bT,bT,bT,k3.o,bT,bT,bT,bT,k4.o]++rT 5++[k5.o,bT]) (gc h5 (gc k5 (Aw h5 (gc h4 (gc k4 (Ak h4 (gc h3 (gc k3 (Ak h3 (gc k2 (gc (jF h2) (gc (aU h0) (gc (bM h1) (gc (aU h0) (Ak (bM h1) (Az (aU h0) (gc k1 (Ak (aU h0) gn))))))))))))))))))
theorem cEk(h0:x1≠3)(h1:(decide (x1≤4))=false)(h2:x1≠6)(h3:(within x0 1 9999)=true)(h4:(within x1 0 9)=true)(h5:(within x2 0 10000)=false):FV Tp 107 [(.p (.agg [(aA x0),(aA x1),(aA x2),(aA x3),(aA x4),(aA x5)]))] base (pB false) []:=have k1:=fk 1 (eP x1) rfl;have k2:=fk 1 (cC x0 1 9999) rfl;have k3:=fk 1 (cC x1 0 9) rfl;have k4:=fk 1 (cC x2 0 10000) rfl;FV.fi func107 ([bF,bF,bF,k1.o,bF,bF,bT,bT,bT,bF,bT,bF,bT,k2.o,bT,bT,bT,k3.o,bT,bT,bT,bT,k4.o,bT]++rF 5) (Bo h5 (gc h4 (gc k4 (Ak h4 (gc h3 (gc k3 (Ak h3 (gc k2 (gc (jF h2) (gc (aU h0) (gc (bM h1) (gc (aU h0) (Ak (bM h1) (Az (aU h0) (gc k1 (Ak (aU h0) gn))))))))))))))))
theorem cEl(h0:x1≠3)(h1:(decide (x1≤4))=false)(h2:x1≠6)(h3:(within x0 1 9999)=true)(h4:(within x1 0 9)=false):FV Tp 107 [(.p (.agg [(aA x0),(aA x1),(aA x2),(aA x3),(aA x4),(aA x5)]))] base (pB false) []:=have k1:=fk 1 (eP x1) rfl;have k2:=fk 1 (cC x0 1 9999) rfl;have k3:=fk 1 (cC x1 0 9) rfl;FV.fi func107 [bF,bF,bF,k1.o,bF,bF,bT,bT,bT,bF,bT,bF,bT,k2.o,bT,bT,bT,k3.o,bT,bF,bF,bF,bF] (Aw h4 (gc h3 (gc k3 (Ak h3 (gc k2 (gc (jF h2) (gc (aU h0) (gc (bM h1) (gc (aU h0) (Ak (bM h1) (Az (aU h0) (gc k1 (Ak (aU h0) gn)))))))))))))
theorem cEm(h0:x1≠3)(h1:(decide (x1≤4))=false)(h2:x1≠6)(h3:(within x0 1 9999)=false):FV Tp 107 [(.p (.agg [(aA x0),(aA x1),(aA x2),(aA x3),(aA x4),(aA x5)]))] base (pB false) []:=have k1:=fk 1 (eP x1) rfl;have k2:=fk 1 (cC x0 1 9999) rfl;FV.fi func107 [bF,bF,bF,k1.o,bF,bF,bT,bT,bT,bF,bT,bF,bT,k2.o,bF,bF,bF,bF] (Aw h3 (gc k2 (gc (jF h2) (gc (aU h0) (gc (bM h1) (gc (aU h0) (Ak (bM h1) (Az (aU h0) (gc k1 (Ak (aU h0) gn))))))))))
theorem cEn(h0:x1≠3)(h1:(decide (x1≤4))=false)(h2:x1=6)(h3:(within x0 1 9999)=true)(h4:(within x1 0 9)=true)(h5:(within x2 0 10000)=true)(A4:r0=(within x4 0 36000)):FV Tp 107 [(.p (.agg [(aA x0),(aA x1),(aA x2),(aA x3),(aA x4),(aA x5)]))] base (pB r0) []:=by
 subst A4;have k1:=fk 1 (eP x1) rfl;have k2:=fk 1 (cC x0 1 9999) rfl;have k3:=fk 1 (cC x1 0 9) rfl;have k4:=fk 1 (cC x2 0 10000) rfl;have k5:=fk 1 (cC x4 0 36000) rfl;exact FV.fi func107 ([bF,bF,bF,k1.o,bF,bF,bT,bT,bT,bF,bT,bF,bF,k2.o,bT,bT,bT,k3.o,bT,bT,bT,bT,k4.o]++rT 5++[k5.o,bT]) (gc h5 (gc k5 (Aw h5 (gc h4 (gc k4 (Ak h4 (gc h3 (gc k3 (Ak h3 (gc k2 (gc (bL h2) (gc (aU h0) (gc (bM h1) (gc (aU h0) (Ak (bM h1) (Az (aU h0) (gc k1 (Ak (aU h0) gn))))))))))))))))))
theorem cEo(h0:x1≠3)(h1:(decide (x1≤4))=false)(h2:x1=6)(h3:(within x0 1 9999)=true)(h4:(within x1 0 9)=true)(h5:(within x2 0 10000)=false):FV Tp 107 [(.p (.agg [(aA x0),(aA x1),(aA x2),(aA x3),(aA x4),(aA x5)]))] base (pB false) []:=have k1:=fk 1 (eP x1) rfl;have k2:=fk 1 (cC x0 1 9999) rfl;have k3:=fk 1 (cC x1 0 9) rfl;have k4:=fk 1 (cC x2 0 10000) rfl;FV.fi func107 ([bF,bF,bF,k1.o,bF,bF,bT,bT,bT,bF,bT,bF,bF,k2.o,bT,bT,bT,k3.o,bT,bT,bT,bT,k4.o,bT]++rF 5) (Bo h5 (gc h4 (gc k4 (Ak h4 (gc h3 (gc k3 (Ak h3 (gc k2 (gc (bL h2) (gc (aU h0) (gc (bM h1) (gc (aU h0) (Ak (bM h1) (Az (aU h0) (gc k1 (Ak (aU h0) gn))))))))))))))))
theorem bVx(h0:x1≠3)(h1:(decide (x1≤4))=false)(h2:x1=6)(h3:(within x0 1 9999)=true)(h4:(within x1 0 9)=false):FV Tp 107 [(.p (.agg [(aA x0),(aA x1),(aA x2),(aA x3),(aA x4),(aA x5)]))] base (pB false) []:=have k1:=fk 1 (eP x1) rfl;have k2:=fk 1 (cC x0 1 9999) rfl;have k3:=fk 1 (cC x1 0 9) rfl;FV.fi func107 [bF,bF,bF,k1.o,bF,bF,bT,bT,bT,bF,bT,bF,bF,k2.o,bT,bT,bT,k3.o,bT,bF,bF,bF,bF] (Aw h4 (gc h3 (gc k3 (Ak h3 (gc k2 (gc (bL h2) (gc (aU h0) (gc (bM h1) (gc (aU h0) (Ak (bM h1) (Az (aU h0) (gc k1 (Ak (aU h0) gn)))))))))))))
theorem bVy(h0:x1≠3)(h1:(decide (x1≤4))=false)(h2:x1=6)(h3:(within x0 1 9999)=false):FV Tp 107 [(.p (.agg [(aA x0),(aA x1),(aA x2),(aA x3),(aA x4),(aA x5)]))] base (pB false) []:=have k1:=fk 1 (eP x1) rfl;have k2:=fk 1 (cC x0 1 9999) rfl;FV.fi func107 [bF,bF,bF,k1.o,bF,bF,bT,bT,bT,bF,bT,bF,bF,k2.o,bF,bF,bF,bF] (Aw h3 (gc k2 (gc (bL h2) (gc (aU h0) (gc (bM h1) (gc (aU h0) (Ak (bM h1) (Az (aU h0) (gc k1 (Ak (aU h0) gn))))))))))
theorem bVz(h0:x1≠3)(h1:(decide (x1≤4))=true)(h2:(within x0 1 9999)=true)(h3:(within x1 0 9)=true)(h4:(within x2 0 10000)=true)(A4:r0=(within x4 0 36000)):FV Tp 107 [(.p (.agg [(aA x0),(aA x1),(aA x2),(aA x3),(aA x4),(aA x5)]))] base (pB r0) []:=by
 subst A4;have k1:=fk 1 (eP x1) rfl;have k2:=fk 1 (cC x0 1 9999) rfl;have k3:=fk 1 (cC x1 0 9) rfl;have k4:=fk 1 (cC x2 0 10000) rfl;have k5:=fk 1 (cC x4 0 36000) rfl;exact FV.fi func107 ([bF,bF,bF,k1.o]++rF 8++[k2.o,bT,bT,bT,k3.o,bT,bT,bT,bT,k4.o]++rT 5++[k5.o,bT]) (gc h4 (gc k5 (Aw h4 (gc h3 (gc k4 (Ak h3 (gc h2 (gc k3 (Ak h2 (gc k2 (gc (aU h0) (gc (aV h1) (gc (aU h0) (Ak (aV h1) (Az (aU h0) (gc k1 (Ak (aU h0) gn)))))))))))))))))
theorem bWa(h0:x1≠3)(h1:(decide (x1≤4))=true)(h2:(within x0 1 9999)=true)(h3:(within x1 0 9)=true)(h4:(within x2 0 10000)=false):FV Tp 107 [(.p (.agg [(aA x0),(aA x1),(aA x2),(aA x3),(aA x4),(aA x5)]))] base (pB false) []:=have k1:=fk 1 (eP x1) rfl;have k2:=fk 1 (cC x0 1 9999) rfl;have k3:=fk 1 (cC x1 0 9) rfl;have k4:=fk 1 (cC x2 0 10000) rfl;FV.fi func107 ([bF,bF,bF,k1.o]++rF 8++[k2.o,bT,bT,bT,k3.o,bT,bT,bT,bT,k4.o,bT]++rF 5) (Bo h4 (gc h3 (gc k4 (Ak h3 (gc h2 (gc k3 (Ak h2 (gc k2 (gc (aU h0) (gc (aV h1) (gc (aU h0) (Ak (aV h1) (Az (aU h0) (gc k1 (Ak (aU h0) gn)))))))))))))))
theorem bWb(h0:x1≠3)(h1:(decide (x1≤4))=true)(h2:(within x0 1 9999)=true)(h3:(within x1 0 9)=false):FV Tp 107 [(.p (.agg [(aA x0),(aA x1),(aA x2),(aA x3),(aA x4),(aA x5)]))] base (pB false) []:=have k1:=fk 1 (eP x1) rfl;have k2:=fk 1 (cC x0 1 9999) rfl;have k3:=fk 1 (cC x1 0 9) rfl;FV.fi func107 ([bF,bF,bF,k1.o]++rF 8++[k2.o,bT,bT,bT,k3.o,bT,bF,bF,bF,bF]) (Aw h3 (gc h2 (gc k3 (Ak h2 (gc k2 (gc (aU h0) (gc (aV h1) (gc (aU h0) (Ak (aV h1) (Az (aU h0) (gc k1 (Ak (aU h0) gn))))))))))))
theorem bWc(h0:x1≠3)(h1:(decide (x1≤4))=true)(h2:(within x0 1 9999)=false):FV Tp 107 [(.p (.agg [(aA x0),(aA x1),(aA x2),(aA x3),(aA x4),(aA x5)]))] base (pB false) []:=have k1:=fk 1 (eP x1) rfl;have k2:=fk 1 (cC x0 1 9999) rfl;FV.fi func107 ([bF,bF,bF,k1.o]++rF 8++[k2.o,bF,bF,bF,bF]) (Aw h2 (gc k2 (gc (aU h0) (gc (aV h1) (gc (aU h0) (Ak (aV h1) (Az (aU h0) (gc k1 (Ak (aU h0) gn)))))))))
theorem cEp(x0 x1 x2 x3 x4 x5:Int){base:Nat}:FV Tp 107 [.p (dcE x0 x1 x2 x3 x4 x5)] base (pB (dcB [x0,x1,x2,x3,x4,x5])) []:=by
 by_cases h3:x1=3
 ·have hm:mT x1=0:=by unfold mT;rw [if_pos (.inl h3)]
  cases Dz:within x0 1 9999 with
  | false=>rw [gY,Dz,Bool.false_and];exact cEi h3 Dz
  | true =>
  cases Es:within x1 0 9 with
  | false=>rw [gY,Dz,Es,gA,Bool.false_and];exact cEh h3 Dz Es
  | true =>
  cases F8:within x2 0 10000 with
  | false=>rw [gY,Dz,Es,F8,gA,gA,Bool.false_and];exact cEg h3 Dz Es F8
  | true =>
  rw [gY,Dz,Es,F8,gA,gA,gA,hm];exact cEf h3 Dz Es F8 rfl
 by_cases h4:x1≤4
 ·have hm:mT x1=36000:=by unfold mT;rw [if_neg (by omega)]
  have Iy:decide (x1≤4)=true:=by simpa using h4
  cases Dz:within x0 1 9999 with
  | false=>rw [gY,Dz,Bool.false_and];exact bWc h3 Iy Dz
  | true =>
  cases Es:within x1 0 9 with
  | false=>rw [gY,Dz,Es,gA,Bool.false_and];exact bWb h3 Iy Dz Es
  | true =>
  cases F8:within x2 0 10000 with
  | false=>rw [gY,Dz,Es,F8,gA,gA,Bool.false_and];exact bWa h3 Iy Dz Es F8
  | true =>
  rw [gY,Dz,Es,F8,gA,gA,gA,hm];exact bVz h3 Iy Dz Es F8 rfl
 have Iy:decide (x1≤4)=false:=by simpa using h4
 by_cases h6:x1=6
 ·have hm:mT x1=36000:=by unfold mT;rw [if_neg (by omega)]
  cases Dz:within x0 1 9999 with
  | false=>rw [gY,Dz,Bool.false_and];exact bVy h3 Iy h6 Dz
  | true =>
  cases Es:within x1 0 9 with
  | false=>rw [gY,Dz,Es,gA,Bool.false_and];exact bVx h3 Iy h6 Dz Es
  | true =>
  cases F8:within x2 0 10000 with
  | false=>rw [gY,Dz,Es,F8,gA,gA,Bool.false_and];exact cEo h3 Iy h6 Dz Es F8
  | true =>
  rw [gY,Dz,Es,F8,gA,gA,gA,hm];exact cEn h3 Iy h6 Dz Es F8 rfl
 have hm:mT x1=0:=by unfold mT;rw [if_pos (by omega)]
 cases Dz:within x0 1 9999 with
 | false=>rw [gY,Dz,Bool.false_and];exact cEm h3 Iy h6 Dz
 | true =>
 cases Es:within x1 0 9 with
 | false=>rw [gY,Dz,Es,gA,Bool.false_and];exact cEl h3 Iy h6 Dz Es
 | true =>
 cases F8:within x2 0 10000 with
 | false=>rw [gY,Dz,Es,F8,gA,gA,Bool.false_and];exact cEk h3 Iy h6 Dz Es F8
 | true =>
 rw [gY,Dz,Es,F8,gA,gA,gA,hm];exact cEj h3 Iy h6 Dz Es F8 rfl

def oP(l:List Int)(i:Nat)(me:List (Value × PV))(mk:Nat):St:=⟨fr 19 [(3,(.mp 0)),(7,(.p (aG l))),(8,(pI (l.length:Int))),(9,(pI (i:Int)))],[some (.mp me mk)]⟩
theorem cKs(hl0:aE Tp 0 aEy (oP l 0 [] 0) (.exit 0) (oP l Bm (fD Rb) Rb.length)):FV Tp 108 [(.p (aG l))] base (pB false) []:=FV.fi func108 [hl0.k 8 (gI [0,3,4,3,10,9] [0])] (gc hl0.code gn)
theorem cKt(hl0:aE Tp 0 aEy (oP l 0 [] 0) .ret (bS (oP l Bm (fD Rb) Rb.length) [(2,(.kb true))])):FV Tp 108 [(.p (aG l))] base (pB true) []:=FV.fi func108 [hl0.k 8 (gI [0,3,4,3,10,9] [0])] (gc hl0.code gn)
theorem bPm{Ab:Bool}(h0:(i:Int)<(l.length:Int))(h1:l[i]? = some Aq)(h2:cP .i64 (fD m) (.int .i64 Aq))(h3:(dS (fD m) (.int .i64 Aq))=true)(h4:gB (fD m) (.int .i64 Aq)=some (blP Ab))(h5:Ab=true):aC Tp 0 aEy (oP l i (fD m) m.length) .ret (bS (oP l i (fD m) m.length) [(2,(.kb true))]):=aC.fi (gI [0,2,4,3,10,9] [0]) [bT,.x (aA Aq),bT,.x (blP Ab),bT] (gc h5 (gc h4 (gc h3 (gc h2 (gc (atm aA h1) (gc (ixn aA h1) (gc (aI h0) gn)))))))
theorem bPn{m':List Int}(h0:(i:Int)<(l.length:Int))(h1:l[i]? = some Aq)(h2:cP .i64 (fD m) (.int .i64 Aq))(h3:(dS (fD m) (.int .i64 Aq))=false)(h4:inR (((i+1):Nat):Int))(Ai:i'=(i+1))(S2:fD m'=((fD m)++[((.int .i64 Aq),(blP true))]))(S3:m'.length=(m.length+1)):aC Tp 0 aEy (oP l i (fD m) m.length) .normal (oP l i' (fD m') m'.length):=by
 subst Ai;rw [S2,S3];exact aC.fi (gI [0,3,4,3,10,9] [0]) [bT,.x (aA Aq),bF,bF,bF] (gc h4 (gc h3 (gc h2 (gf (gc h3 (gc h2 (gc (atm aA h1) (gc (ixn aA h1) (gc (aI h0) gn)))))))))
theorem bPo(h0:(l.length:Int)≤(i:Int)):aC Tp 0 aEy (oP l i (fD m) m.length) (.exit 0) (oP l i (fD m) m.length):=aC.fi (gI [0,3,4,3,10,9] [0]) [bF] (gc (aN h0) gn)
def tN(sk:Lqq)(i:Nat)(on:Nat)(oc:List PV):St:=⟨fr 20 [(2,(.p bX)),(3,(.own 0)),(7,(.p (fS sk))),(8,(pI (sk.length:Int))),(9,(pI (i:Int)))],[some (.row 3 on oc)]⟩
theorem cEq(hl0:aE Tp 0 aZp (tN sk 0 0 []) (.exit 0) (tN sk Bm Dp.length (Dp.map aA))):FV Tp 109 [(.p (.agg [(aA dl),(fS sk),(fS dc)]))] base (.own base) [(base,(.row 3 Dp.length (Dp.map aA)))]:=FV.fi func109 [hl0.k 8 (gN [0,2,4,3,10,9] [1] [(3,3)])] (gc hl0.code gn)
theorem bHj(h0:(i:Int)<(sk.length:Int))(h1:sk[i]? = some [Aa,Ab])(h2:uni 2 sk)(h3:[(aA Aa)].length=1*1∧o.length+1≤1000000)(h4:inR (((i+1):Nat):Int))(Ai:i'=(i+1))(B1:o'.length=(o.length+1))(B2:o'.map aA=((o.map aA)++[(aA Aa)])):aC Tp 0 aZp (tN sk i o.length (o.map aA)) .normal (tN sk i' o'.length (o'.map aA)):=by
 subst Ai;rw [B1,B2];exact aC.fi (gI [0,2,4,3,10,9] [3]) [bT,.x (.agg [(aA Aa),(aA Ab)])] (gc h4 (gc h3 (gfl h2 h1 (gc (aI h0) gn))))
theorem bHk(h0:(sk.length:Int)≤(i:Int)):aC Tp 0 aZp (tN sk i o.length (o.map aA)) (.exit 0) (tN sk i o.length (o.map aA)):=aC.fi (gI [0,2,4,3,10,9] [0]) [bF] (gc (aN h0) gn)
def tO(dc:Lqq)(i:Nat)(on:Nat)(oc:List PV):St:=⟨fr 20 [(2,(.p bX)),(3,(.own 0)),(7,(.p (fS dc))),(8,(pI (dc.length:Int))),(9,(pI (i:Int)))],[some (.row 3 on oc)]⟩
theorem cEr(hl0:aE Tp 0 aZq (tO dc 0 0 []) (.exit 0) (tO dc Bm Dp.length (Dp.map aA))):FV Tp 110 [(.p (.agg [(aA dl),(fS sk),(fS dc)]))] base (.own base) [(base,(.row 3 Dp.length (Dp.map aA)))]:=FV.fi func110 [hl0.k 8 (gN [0,2,4,3,10,9] [1] [(3,3)])] (gc hl0.code gn)
theorem bHl{Ac Ad Ae Af:Int}(h0:(i:Int)<(dc.length:Int))(h1:dc[i]? = some [Aa,Ab,Ac,Ad,Ae,Af])(h2:uni 6 dc)(h3:[(aA Aa)].length=1*1∧o.length+1≤1000000)(h4:inR (((i+1):Nat):Int))(Ai:i'=(i+1))(B1:o'.length=(o.length+1))(B2:o'.map aA=((o.map aA)++[(aA Aa)])):aC Tp 0 aZq (tO dc i o.length (o.map aA)) .normal (tO dc i' o'.length (o'.map aA)):=by
 subst Ai;rw [B1,B2];exact aC.fi (gI [0,2,4,3,10,9] [3]) [bT,.x (.agg [(aA Aa),(aA Ab),(aA Ac),(aA Ad),(aA Ae),(aA Af)])] (gc h4 (gc h3 (gfl h2 h1 (gc (aI h0) gn))))
theorem bHm(h0:(dc.length:Int)≤(i:Int)):aC Tp 0 aZq (tO dc i o.length (o.map aA)) (.exit 0) (tO dc i o.length (o.map aA)):=aC.fi (gI [0,2,4,3,10,9] [0]) [bF] (gc (aN h0) gn)
theorem aZr(l:List Int)(hl:l.length≤1000)(hb:∀ x∈l,-1000000≤x∧x≤1000000):∀ (d i:Nat),i+d=l.length→(l.take i).Nodup →
  (l.Nodup∧aE Tp 0 aEy (oP l i (fD (l.take i)) (l.take i).length) (.exit 0) (oP l l.length (fD l) l.length))∨(¬ l.Nodup∧∃ i' m',aE Tp 0 aEy (oP l i (fD (l.take i)) (l.take i).length) .ret (bS (oP l i' (fD m') m'.length) [(2,.kb true)]))
 | 0,i,h,hn=>by
  obtain rfl:i=l.length:=by omega
  rw [List.take_length] at hn ⊢
  exact .inl ⟨hn,.exit (bPo (by omega)) (by simp)⟩
 | d+1,i,h,hn=>by
  have hi:i<l.length:=by omega
  have hx:l[i]? = some l[i]:=Av hi;have et:l.take (i+1)=l.take i++[l[i]]:=by rw [List.take_add_one,hx];rfl
  have hk:=aVl hn (fun x hx=>hb x (List.mem_of_mem_take hx)) (hb _ (fL hi))
  by_cases hm:l[i]∈l.take i
  ·refine .inr ⟨fun hnd => ?_,i,l.take i,.exit (bPm (by omega) hx hk (bPq hm) (bHn hm) rfl) (by simp)⟩
   obtain ⟨j,hj,e⟩:=List.mem_iff_getElem.1 hm;rw [mJ] at hj
   rw [List.getElem_take] at e
   exact List.pairwise_iff_getElem.1 hnd j i (by omega) hi (by omega) e
  ·have R4:(l.take (i+1)).Nodup:=by
    rw [et,List.nodup_append];exact ⟨hn,by simp,fun a ha b hb e=>hm (by simp at hb;rw [← hb,← e];exact ha)⟩
   have hstep:=bPn (m:=l.take i) (m':=l.take (i+1)) (i':=i+1) (by omega) hx hk (bPp hm) (aH (by omega)) rfl (by rw [et,aVk]) (by simp;omega)
   rcases aZr l hl hb d (i+1) (by omega) R4 with ⟨q1,q2⟩ | ⟨q1,i',m',q2⟩
   ·exact .inl ⟨q1,.step hstep q2⟩
   ·exact .inr ⟨q1,i',m',.step hstep q2⟩
theorem yG(l:List Int)(hl:l.length≤1000)(hb:∀ x∈l,-1000000≤x∧x≤1000000){base:Nat}:FV Tp 108 [.p (aG l)] base (pB (!decide l.Nodup)) []:=by
 rcases aZr l hl hb l.length 0 (by omega) (by simp) with ⟨q1,q2⟩ | ⟨q1,i',m',q2⟩
 ·rw [decide_eq_true q1];exact cKs q2
 ·rw [decide_eq_false q1];exact cKt q2
theorem pE(dl:Int)(sk dc:Lqq)(h:uni 2 sk∧sk.length≤1000){base:Nat}:FV Tp 109 [.p (.agg [aA dl,.sl sk.length (sk.flatten.map aA),.sl dc.length (dc.flatten.map aA)])] base (.own base) [(base,.row 3 (aQ sk 0).length ((aQ sk 0).map aA))]:=by
 obtain ⟨hu,hl⟩:=h;have L:=aE.count (P:=Tp) (k:=0) (b:=aZp) (e := .exit 0) (R:=tN sk sk.length (aQ sk 0).length ((aQ sk 0).map aA)) sk.length (fun i=>tN sk i (aQ (sk.take i) 0).length ((aQ (sk.take i) 0).map aA))
  (fun i Cs=>by
   obtain ⟨a,b,hx⟩:=at2 hu Cs;have et:sk.take (i+1)=sk.take i++[[a,b]]:=by rw [List.take_add_one,hx];rfl
   exact bHj (o:=aQ (sk.take i) 0) (o':=aQ (sk.take (i+1)) 0) (by omega) hx hu ⟨rfl,by simp [aQ];omega⟩ (aH (by omega)) rfl (by simp [aQ];omega) (by rw [et];simp [aQ]))
  (by rw [List.take_length];exact bHk (by omega)) (by simp)
 exact cEq L
theorem aLn(dl:Int)(sk dc:Lqq)(h:uni 6 dc∧dc.length≤1000){base:Nat}:FV Tp 110 [.p (.agg [aA dl,.sl sk.length (sk.flatten.map aA),.sl dc.length (dc.flatten.map aA)])] base (.own base) [(base,.row 3 (aQ dc 0).length ((aQ dc 0).map aA))]:=by
 obtain ⟨hu,hl⟩:=h;have L:=aE.count (P:=Tp) (k:=0) (b:=aZq) (e := .exit 0) (R:=tO dc dc.length (aQ dc 0).length ((aQ dc 0).map aA)) dc.length (fun i=>tO dc i (aQ (dc.take i) 0).length ((aQ (dc.take i) 0).map aA))
  (fun i Cs=>by
   obtain ⟨a,b,c,d,e,g,hx⟩:=S0 hu Cs;have et:dc.take (i+1)=dc.take i++[[a,b,c,d,e,g]]:=by rw [List.take_add_one,hx];rfl
   exact bHl (o:=aQ (dc.take i) 0) (o':=aQ (dc.take (i+1)) 0) (by omega) hx hu ⟨rfl,by simp [aQ];omega⟩ (aH (by omega)) rfl (by simp [aQ];omega) (by rw [et];simp [aQ]))
  (by rw [List.take_length];exact bHm (by omega)) (by simp)
 exact cEr L
end
section
variable {r0:Bool}{v dl x0 x1 x2 x3 x4 x5 Aq Aa Ab Ac Ad Ae Af:Int}{l dc sk:Lqq}{i i' Bm base:Nat}
variable {dl:Int}{sk dc:Lqq}

noncomputable abbrev lF:Code:=sub (cd Tryz.f77) [1,0,1,0,0]
noncomputable abbrev aIx:Code:=sub (cd Tryz.f126) [1,0,1,0,0]
noncomputable abbrev aIy:Code:=sub (cd Tryz.f190) [1,0,1,0,0]
def jH(l:List Int)(v:Int)(i:Nat):St:=⟨fr 19 [(0,(.p (aG l))),(1,(pI v)),(7,(pI (l.length:Int))),(8,(pI (i:Int)))],[]⟩
theorem bPj{l:List Int}(hl0:aE Tp 0 aIx (jH l v 0) (.exit 0) (jH l v Bm)):FV Tp 126 [(.p (aG l)),(pI v)] base (pI (-1)) []:=FV.fi func126 [hl0.k 6 (gZ [2,5,9,10])] (gc hl0.code gn)
theorem bPk{l:List Int}(hl0:aE Tp 0 aIx (jH l v 0) .ret (bS (jH l v Bm) [(4,(pI (Bm:Int)))])):FV Tp 126 [(.p (aG l)),(pI v)] base (pI (Bm:Int)) []:=FV.fi func126 [hl0.k 6 (gZ [2,5,9,10])] (gc hl0.code gn)
theorem aIz{l:List Int}(h0:(i:Int)<(l.length:Int))(h1:l[i]? = some Aq)(h2:v=Aq):aC Tp 0 aIx (jH l v i) .ret (bS (jH l v i) [(4,(pI (i:Int)))]):=aC.fi (gZ [2,2,5,2,9,10]) [bT,.x (aA Aq),bT] (gc (cH h2) (gc (atm aA h1) (gc (ixn aA h1) (gc (aI h0) gn))))
theorem aJa{l:List Int}(h0:(i:Int)<(l.length:Int))(h1:l[i]? = some Aq)(h2:v≠Aq)(h3:inR (((i+1):Nat):Int))(Ai:i'=(i+1)):aC Tp 0 aIx (jH l v i) .normal (jH l v i'):=by
 subst Ai;exact aC.fi (gZ [2,5,9,10]) [bT,.x (aA Aq),bF] (gc h3 (gc (aU h2) (gc (atm aA h1) (gc (ixn aA h1) (gc (aI h0) gn)))))
theorem aJb{l:List Int}(h0:(l.length:Int)≤(i:Int)):aC Tp 0 aIx (jH l v i) (.exit 0) (jH l v i):=aC.fi (gZ [2,5,9,10]) [bF] (gc (aN h0) gn)
theorem aEx(l:List Int)(v:Int)(hl:l.length≤1000){base:Nat}:FV Tp 126 [.p (aG l),.p (aA v)] base (pI (bJ (fun x=>decide (v=x)) l)) []:=by
 rcases aE.find (P:=Tp) (k:=0) (b:=aIx) (fun i=>jH l v i) (fun i _=>bS (jH l v i) [(4,.p (aA (i:Int)))]) (jH l v l.length) .ret (.exit 0) (by simp) (by simp) (fun x=>decide (v=x)) l
  (fun i x hx hp=>aJa (by have:=aO hx;omega) hx (by simpa using hp) (aH (by have:=aO hx;omega)) rfl)
  (fun i x hx hp=>aIz (by have:=aO hx;omega) hx (by simpa using hp))
  (aJb (l:=l) (i:=l.length) (by omega)) with ⟨i,x,h1,h2,h3,h4⟩ | ⟨h1,h2,h3⟩
 ·rw [eF h2];exact bPk h4
 ·rw [gS h1];exact bPj h3
theorem cDg{l:List Int}(h0:l.length≤1000)(A4:r0=(decide ((bJ (fun x=>decide (v=x)) l) ≥ 0))):FV Tp 52 [(.p (aG l)),(pI v)] base (pB r0) []:=by
 subst A4;have k1:=fk 0 (aEx l v h0) rfl;exact FV.fi func52 [k1.o] (gc k1 gn)
theorem yF(l:List Int)(v:Int):decide (bJ (fun x=>decide (v=x)) l ≥ 0)=l.contains v:=by
 rw [lZ]
 induction l with
 | nil=>rfl
 | cons a l ih=>rw [List.any_cons,ih,List.contains_cons];rfl
theorem pD(l:List Int)(v:Int)(hl:l.length≤1000){base:Nat}:FV Tp 52 [.p (aG l),.p (aA v)] base (pB (l.contains v)) []:=cDg hl (yF l v).symm
theorem cDh(h0:(decide (x1≤4))=true)(A4:r0=(x5 == 0)):FV Tp 113 [(.p (.agg [(aA x0),(aA x1),(aA x2),(aA x3),(aA x4),(aA x5)]))] base (pB r0) []:=by
 subst A4;have k1:=fk 1 (eP x1) rfl;exact FV.fi func113 [k1.o,bT] (gc h0 (gc k1 gn))
theorem cDi(h0:(decide (x1≤4))=false)(h1:inR (x0-1))(A4:r0=(within x5 1 (x0-1))):FV Tp 113 [(.p (.agg [(aA x0),(aA x1),(aA x2),(aA x3),(aA x4),(aA x5)]))] base (pB r0) []:=by
 subst A4;have k1:=fk 1 (eP x1) rfl;have k2:=fk 1 (cC x5 1 (x0-1)) rfl;exact FV.fi func113 [k1.o,bF,k2.o] (gc k2 (gc h1 (gc h0 (gc k1 gn))))
def orB(x:List Int):Bool:=if x.getD 1 0≤4 then x.getD 5 0 == 0 else within (x.getD 5 0) 1 (x.getD 0 0-1)
theorem cDj(a b c d e f:Int)(h:inR (a-1)){base:Nat}:FV Tp 113 [.p (dcE a b c d e f)] base (pB (orB [a,b,c,d,e,f])) []:=by
 by_cases hb:b≤4
 ·exact cDh (by simpa using hb) (show (if b≤4 then f == 0 else within f 1 (a-1))=_ by rw [if_pos hb])
 ·exact cDi (by simpa using hb) h (show (if b≤4 then f == 0 else within f 1 (a-1))=_ by rw [if_neg hb])
theorem cDk(h0:(decide (x1≤4))=true)(h1:uni 2 sk∧sk.length≤1000)(h2:(aQ sk 0).length≤1000)(A4:r0=((aQ sk 0).contains x3)):FV Tp 111 [(.p (.agg [(aA x0),(aA x1),(aA x2),(aA x3),(aA x4),(aA x5)])),(.rp [(aA dl),(fS sk),(fS dc)] 0)] base (pB r0) []:=by
 subst A4;have k1:=fk 1 (eP x1) rfl;have k2:=fk 1 (pE dl sk dc h1) rfl;exact FV.fi func111 [k1.o,bT,.x (.agg [(aA dl),(fS sk),(fS dc)]),k2.o,.c (pB ((aQ sk 0).contains x3)) []] (gt (FC Tp 52 [(.own 1),(pI x3)] [(1,(.row 3 ((aQ sk 0).length) ((aQ sk 0).map aA)))] 9 (pB ((aQ sk 0).contains x3)) []) (fv (pD (aQ sk 0) x3 h2)) (gc k2 (gr (.agg [(aA dl),(fS sk),(fS dc)]) (gt (0+3≤[(aA dl),(fS sk),(fS dc)].length) (by first | decide | simp) (gc h0 (gc k1 gn))))))
theorem cDl(h0:(decide (x1≤4))=false)(A4:r0=(x3 == 0)):FV Tp 111 [(.p (.agg [(aA x0),(aA x1),(aA x2),(aA x3),(aA x4),(aA x5)])),(.rp [(aA dl),(fS sk),(fS dc)] 0)] base (pB r0) []:=by
 subst A4;have k1:=fk 1 (eP x1) rfl;exact FV.fi func111 [k1.o,bF] (gc h0 (gc k1 gn))
def inB(sk:Lqq)(x:List Int):Bool:=if x.getD 1 0≤4 then (aQ sk 0).contains (x.getD 3 0) else x.getD 3 0 == 0
abbrev bB(dl:Int)(sk dc:Lqq):List PV:=[aA dl,.sl sk.length (sk.flatten.map aA),.sl dc.length (dc.flatten.map aA)]
theorem cDm(a b c d e f dl:Int)(sk dc:Lqq)(h:uni 2 sk∧sk.length≤1000){base:Nat}:FV Tp 111 [.p (dcE a b c d e f),.rp (bB dl sk dc) 0] base (pB (inB sk [a,b,c,d,e,f])) []:=by
 by_cases hb:b≤4
 ·exact cDk (by simpa using hb) h (by simpa [aQ] using h.2) (show (if b≤4 then (aQ sk 0).contains d else d == 0)=_ by rw [if_pos hb])
 ·exact cDl (by simpa using hb) (show (if b≤4 then (aQ sk 0).contains d else d == 0)=_ by rw [if_neg hb])
theorem bUz(A4:r0=(!(skB [x0,x1]))):FMM Tp 164 [(.p (.agg [(aA x0),(aA x1)])),(.ptr 0 0)] [some (.box 153 [(.fn 105 [] [])])] (pB r0) [some (.box 153 [(.fn 105 [] [])])]:=by
 subst A4;have k1:=fk 2 (cEe x0 x1) rfl;exact FMM.fi 1 gE func164 [k1.o] (gc k1 gn)
theorem aZl(x0:Int)(x1:Int):FMM Tp 164 [(.p (.agg [(aA x0),(aA x1)])),.ptr 0 0] [some (.box 153 [(.fn 105 [] [])])] (pB (!(skB [x0,x1]))) [some (.box 153 [(.fn 105 [] [])])]:=bUz rfl
def iV(l:Lqq)(i:Nat):St:=⟨fr 19 [(0,(.p (fS l))),(1,(.fn 164 [] [(.ptr 0 0)])),(7,(pI (l.length:Int))),(8,(pI (i:Int)))],[some (.box 153 [(.fn 105 [] [])])]⟩
theorem bVa(hl0:aE Tp 1 aIy (iV l 0) (.exit 0) (iV l Bm)):FMM Tp 190 [(.p (fS l)),(.fn 164 [] [(.ptr 0 0)])] [some (.box 153 [(.fn 105 [] [])])] (pI (-1)) [some (.box 153 [(.fn 105 [] [])])]:=FMM.fi 1 gE func190 [hl0.k 6 (gZ [2,5,9,10])] (gc hl0.code gn)
theorem bVb(hl0:aE Tp 1 aIy (iV l 0) .ret (bS (iV l Bm) [(4,(pI (Bm:Int)))])):FMM Tp 190 [(.p (fS l)),(.fn 164 [] [(.ptr 0 0)])] [some (.box 153 [(.fn 105 [] [])])] (pI (Bm:Int)) [some (.box 153 [(.fn 105 [] [])])]:=FMM.fi 1 gE func190 [hl0.k 6 (gZ [2,5,9,10])] (gc hl0.code gn)
theorem aUx(h0:(i:Int)<(l.length:Int))(h1:l[i]? = some [Aa,Ab])(h2:uni 2 l)(h3:(skB [Aa,Ab])=false):aC Tp 1 aIy (iV l i) .ret (bS (iV l i) [(4,(pI (i:Int)))]):=have k1:=mq [0] 1 (aZl Aa Ab);aC.fi (gZ [2,2,5,2,9,10]) [bT,.x (.agg [(aA Aa),(aA Ab)]),k1.o,bT] (gc (bM h3) (gc k1 (gfl h2 h1 (gc (aI h0) gn))))
theorem aUy(h0:(i:Int)<(l.length:Int))(h1:l[i]? = some [Aa,Ab])(h2:uni 2 l)(h3:(skB [Aa,Ab])=true)(h4:inR (((i+1):Nat):Int))(Ai:i'=(i+1)):aC Tp 1 aIy (iV l i) .normal (iV l i'):=by
 subst Ai;have k1:=mq [0] 1 (aZl Aa Ab);exact aC.fi (gZ [2,5,9,10]) [bT,.x (.agg [(aA Aa),(aA Ab)]),k1.o,bF] (gc h4 (gc (aV h3) (gc k1 (gfl h2 h1 (gc (aI h0) gn)))))
theorem aUz(h0:(l.length:Int)≤(i:Int)):aC Tp 1 aIy (iV l i) (.exit 0) (iV l i):=aC.fi (gZ [2,5,9,10]) [bF] (gc (aN h0) gn)
theorem bVc(l:Lqq)(hl:l.length≤1000)(hu:uni 2 l):FMM Tp 190 [.p (fS l),(.fn 164 [] [(.ptr 0 0)])] [some (.box 153 [(.fn 105 [] [])])] (pI (bJ (fun x => !(skB x)) l)) [some (.box 153 [(.fn 105 [] [])])]:=by
 rcases aE.find (P:=Tp) (k:=1) (b:=aIy) (fun i=>iV l i) (fun i _=>bS (iV l i) [(4,.p (aA (i:Int)))]) (iV l l.length) .ret (.exit 0) (by simp) (by simp) (fun x => !(skB x)) l
  (fun i x hx hp=>by obtain ⟨a,b,rfl⟩:=len2 (hu _ (Bi hx));exact aUy (by have:=aO hx;omega) hx hu (by simpa using hp) (aH (by have:=aO hx;omega)) rfl)
  (fun i x hx hp=>by obtain ⟨a,b,rfl⟩:=len2 (hu _ (Bi hx));exact aUx (by have:=aO hx;omega) hx hu (by simpa using hp))
  (aUz (l:=l) (i:=l.length) (by omega)) with ⟨i,x,h1,h2,h3,h4⟩ | ⟨h1,h2,h3⟩
 ·rw [eF h2];exact bVb h4
 ·rw [gS h1];exact bVa h3
theorem bVd(h0:l.length≤1000)(h1:uni 2 l)(A4:r0=(decide ((bJ (fun x => !(skB x)) l) ≥ 0))):FMM Tp 163 [(.p (fS l)),(.fn 164 [] [(.ptr 0 0)])] [some (.box 153 [(.fn 105 [] [])])] (pB r0) [some (.box 153 [(.fn 105 [] [])])]:=by
 subst A4;have k1:=mq [0] 1 (bVc l h0 h1);exact FMM.fi 1 gE func163 [k1.o] (gc k1 gn)
theorem bVe(l:Lqq)(hl:l.length≤1000)(hu:uni 2 l):FMM Tp 163 [.p (fS l),(.fn 164 [] [(.ptr 0 0)])] [some (.box 153 [(.fn 105 [] [])])] (pB (l.any (fun x => !(skB x)))) [some (.box 153 [(.fn 105 [] [])])]:=bVd hl hu (lZ _ _).symm
theorem cDn(h0:l.length≤1000)(h1:uni 2 l)(A4:r0=(!(l.any (fun x => !(skB x))))):FV Tp 104 [(.p (fS l)),(.fn 105 [] [])] base (pB r0) []:=by
 subst A4;have k1:=mq [0] 1 (bVe l h0 h1);exact FV.fi func104 [k1.o] (gc k1 gn)
theorem wT(l:Lqq)(hl:l.length≤1000)(hu:uni 2 l){base:Nat}:FV Tp 104 [.p (fS l),(.fn 105 [] [])] base (pB (l.all (skB))) []:=cDn hl hu (by rw [List.all_eq_not_any_not])
theorem bVf(A4:r0=(!(dcB [x0,x1,x2,x3,x4,x5]))):FMM Tp 166 [(.p (.agg [(aA x0),(aA x1),(aA x2),(aA x3),(aA x4),(aA x5)])),(.ptr 0 0)] [some (.box 124 [(.fn 107 [] [])])] (pB r0) [some (.box 124 [(.fn 107 [] [])])]:=by
 subst A4;have k1:=fk 2 (cEp x0 x1 x2 x3 x4 x5) rfl;exact FMM.fi 1 gE func166 [k1.o] (gc k1 gn)
theorem aZm(x0:Int)(x1:Int)(x2:Int)(x3:Int)(x4:Int)(x5:Int):FMM Tp 166 [(.p (.agg [(aA x0),(aA x1),(aA x2),(aA x3),(aA x4),(aA x5)])),.ptr 0 0] [some (.box 124 [(.fn 107 [] [])])] (pB (!(dcB [x0,x1,x2,x3,x4,x5]))) [some (.box 124 [(.fn 107 [] [])])]:=bVf rfl
def iW(l:Lqq)(i:Nat):St:=⟨fr 19 [(0,(.p (fS l))),(1,(.fn 166 [] [(.ptr 0 0)])),(7,(pI (l.length:Int))),(8,(pI (i:Int)))],[some (.box 124 [(.fn 107 [] [])])]⟩
theorem bVg(hl0:aE Tp 1 lF (iW l 0) (.exit 0) (iW l Bm)):FMM Tp 77 [(.p (fS l)),(.fn 166 [] [(.ptr 0 0)])] [some (.box 124 [(.fn 107 [] [])])] (pI (-1)) [some (.box 124 [(.fn 107 [] [])])]:=FMM.fi 1 gE func77 [hl0.k 6 (gZ [2,5,9,10])] (gc hl0.code gn)
theorem bVh(hl0:aE Tp 1 lF (iW l 0) .ret (bS (iW l Bm) [(4,(pI (Bm:Int)))])):FMM Tp 77 [(.p (fS l)),(.fn 166 [] [(.ptr 0 0)])] [some (.box 124 [(.fn 107 [] [])])] (pI (Bm:Int)) [some (.box 124 [(.fn 107 [] [])])]:=FMM.fi 1 gE func77 [hl0.k 6 (gZ [2,5,9,10])] (gc hl0.code gn)
theorem aVa(h0:(i:Int)<(l.length:Int))(h1:l[i]? = some [Aa,Ab,Ac,Ad,Ae,Af])(h2:uni 6 l)(h3:(dcB [Aa,Ab,Ac,Ad,Ae,Af])=false):aC Tp 1 lF (iW l i) .ret (bS (iW l i) [(4,(pI (i:Int)))]):=have k1:=mq [0] 1 (aZm Aa Ab Ac Ad Ae Af);aC.fi (gZ [2,2,5,2,9,10]) [bT,.x (.agg [(aA Aa),(aA Ab),(aA Ac),(aA Ad),(aA Ae),(aA Af)]),k1.o,bT] (gc (bM h3) (gc k1 (gfl h2 h1 (gc (aI h0) gn))))
theorem aVb(h0:(i:Int)<(l.length:Int))(h1:l[i]? = some [Aa,Ab,Ac,Ad,Ae,Af])(h2:uni 6 l)(h3:(dcB [Aa,Ab,Ac,Ad,Ae,Af])=true)(h4:inR (((i+1):Nat):Int))(Ai:i'=(i+1)):aC Tp 1 lF (iW l i) .normal (iW l i'):=by
 subst Ai;have k1:=mq [0] 1 (aZm Aa Ab Ac Ad Ae Af);exact aC.fi (gZ [2,5,9,10]) [bT,.x (.agg [(aA Aa),(aA Ab),(aA Ac),(aA Ad),(aA Ae),(aA Af)]),k1.o,bF] (gc h4 (gc (aV h3) (gc k1 (gfl h2 h1 (gc (aI h0) gn)))))
theorem aVc(h0:(l.length:Int)≤(i:Int)):aC Tp 1 lF (iW l i) (.exit 0) (iW l i):=aC.fi (gZ [2,5,9,10]) [bF] (gc (aN h0) gn)
theorem bVi(l:Lqq)(hl:l.length≤1000)(hu:uni 6 l):FMM Tp 77 [.p (fS l),(.fn 166 [] [(.ptr 0 0)])] [some (.box 124 [(.fn 107 [] [])])] (pI (bJ (fun x => !(dcB x)) l)) [some (.box 124 [(.fn 107 [] [])])]:=by
 rcases aE.find (P:=Tp) (k:=1) (b:=lF) (fun i=>iW l i) (fun i _=>bS (iW l i) [(4,.p (aA (i:Int)))]) (iW l l.length) .ret (.exit 0) (by simp) (by simp) (fun x => !(dcB x)) l
  (fun i x hx hp=>by obtain ⟨a,b,c,d,e,f,rfl⟩:=A6 (hu _ (Bi hx));exact aVb (by have:=aO hx;omega) hx hu (by simpa using hp) (aH (by have:=aO hx;omega)) rfl)
  (fun i x hx hp=>by obtain ⟨a,b,c,d,e,f,rfl⟩:=A6 (hu _ (Bi hx));exact aVa (by have:=aO hx;omega) hx hu (by simpa using hp))
  (aVc (l:=l) (i:=l.length) (by omega)) with ⟨i,x,h1,h2,h3,h4⟩ | ⟨h1,h2,h3⟩
 ·rw [eF h2];exact bVh h4
 ·rw [gS h1];exact bVg h3
theorem bVj(h0:l.length≤1000)(h1:uni 6 l)(A4:r0=(decide ((bJ (fun x => !(dcB x)) l) ≥ 0))):FMM Tp 165 [(.p (fS l)),(.fn 166 [] [(.ptr 0 0)])] [some (.box 124 [(.fn 107 [] [])])] (pB r0) [some (.box 124 [(.fn 107 [] [])])]:=by
 subst A4;have k1:=mq [0] 1 (bVi l h0 h1);exact FMM.fi 1 gE func165 [k1.o] (gc k1 gn)
theorem bVk(l:Lqq)(hl:l.length≤1000)(hu:uni 6 l):FMM Tp 165 [.p (fS l),(.fn 166 [] [(.ptr 0 0)])] [some (.box 124 [(.fn 107 [] [])])] (pB (l.any (fun x => !(dcB x)))) [some (.box 124 [(.fn 107 [] [])])]:=bVj hl hu (lZ _ _).symm
theorem cDo(h0:l.length≤1000)(h1:uni 6 l)(A4:r0=(!(l.any (fun x => !(dcB x))))):FV Tp 106 [(.p (fS l)),(.fn 107 [] [])] base (pB r0) []:=by
 subst A4;have k1:=mq [0] 1 (bVk l h0 h1);exact FV.fi func106 [k1.o] (gc k1 gn)
theorem zQ(l:Lqq)(hl:l.length≤1000)(hu:uni 6 l){base:Nat}:FV Tp 106 [.p (fS l),(.fn 107 [] [])] base (pB (l.all (dcB))) []:=cDo hl hu (by rw [List.all_eq_not_any_not])
theorem bVl(h0:inR (x0-1))(A4:r0=(!(orB [x0,x1,x2,x3,x4,x5]))):FMM Tp 166 [(.p (.agg [(aA x0),(aA x1),(aA x2),(aA x3),(aA x4),(aA x5)])),(.ptr 0 0)] [some (.box 124 [(.fn 113 [] [])])] (pB r0) [some (.box 124 [(.fn 113 [] [])])]:=by
 subst A4;have k1:=fk 2 (cDj x0 x1 x2 x3 x4 x5 h0) rfl;exact FMM.fi 1 gE func166 [k1.o] (gc k1 gn)
theorem aZn(x0:Int)(x1:Int)(x2:Int)(x3:Int)(x4:Int)(x5:Int)(he:inR ([x0,x1,x2,x3,x4,x5].getD 0 0-1)):FMM Tp 166 [(.p (.agg [(aA x0),(aA x1),(aA x2),(aA x3),(aA x4),(aA x5)])),.ptr 0 0] [some (.box 124 [(.fn 113 [] [])])] (pB (!(orB [x0,x1,x2,x3,x4,x5]))) [some (.box 124 [(.fn 113 [] [])])]:=bVl he rfl
def iX(l:Lqq)(i:Nat):St:=⟨fr 19 [(0,(.p (fS l))),(1,(.fn 166 [] [(.ptr 0 0)])),(7,(pI (l.length:Int))),(8,(pI (i:Int)))],[some (.box 124 [(.fn 113 [] [])])]⟩
theorem bVm(hl0:aE Tp 1 lF (iX l 0) (.exit 0) (iX l Bm)):FMM Tp 77 [(.p (fS l)),(.fn 166 [] [(.ptr 0 0)])] [some (.box 124 [(.fn 113 [] [])])] (pI (-1)) [some (.box 124 [(.fn 113 [] [])])]:=FMM.fi 1 gE func77 [hl0.k 6 (gZ [2,5,9,10])] (gc hl0.code gn)
theorem bVn(hl0:aE Tp 1 lF (iX l 0) .ret (bS (iX l Bm) [(4,(pI (Bm:Int)))])):FMM Tp 77 [(.p (fS l)),(.fn 166 [] [(.ptr 0 0)])] [some (.box 124 [(.fn 113 [] [])])] (pI (Bm:Int)) [some (.box 124 [(.fn 113 [] [])])]:=FMM.fi 1 gE func77 [hl0.k 6 (gZ [2,5,9,10])] (gc hl0.code gn)
theorem aVd(h0:(i:Int)<(l.length:Int))(h1:l[i]? = some [Aa,Ab,Ac,Ad,Ae,Af])(h2:uni 6 l)(h3:inR ([Aa,Ab,Ac,Ad,Ae,Af].getD 0 0-1))(h4:(orB [Aa,Ab,Ac,Ad,Ae,Af])=false):aC Tp 1 lF (iX l i) .ret (bS (iX l i) [(4,(pI (i:Int)))]):=have k1:=mq [0] 1 (aZn Aa Ab Ac Ad Ae Af h3);aC.fi (gZ [2,2,5,2,9,10]) [bT,.x (.agg [(aA Aa),(aA Ab),(aA Ac),(aA Ad),(aA Ae),(aA Af)]),k1.o,bT] (gc (bM h4) (gc k1 (gfl h2 h1 (gc (aI h0) gn))))
theorem aVe(h0:(i:Int)<(l.length:Int))(h1:l[i]? = some [Aa,Ab,Ac,Ad,Ae,Af])(h2:uni 6 l)(h3:inR ([Aa,Ab,Ac,Ad,Ae,Af].getD 0 0-1))(h4:(orB [Aa,Ab,Ac,Ad,Ae,Af])=true)(h5:inR (((i+1):Nat):Int))(Ai:i'=(i+1)):aC Tp 1 lF (iX l i) .normal (iX l i'):=by
 subst Ai;have k1:=mq [0] 1 (aZn Aa Ab Ac Ad Ae Af h3);exact aC.fi (gZ [2,5,9,10]) [bT,.x (.agg [(aA Aa),(aA Ab),(aA Ac),(aA Ad),(aA Ae),(aA Af)]),k1.o,bF] (gc h5 (gc (aV h4) (gc k1 (gfl h2 h1 (gc (aI h0) gn)))))
theorem aVf(h0:(l.length:Int)≤(i:Int)):aC Tp 1 lF (iX l i) (.exit 0) (iX l i):=aC.fi (gZ [2,5,9,10]) [bF] (gc (aN h0) gn)
theorem bVo(l:Lqq)(hl:l.length≤1000)(hu:uni 6 l)(he:∀ x∈l,inR (x.getD 0 0-1)):FMM Tp 77 [.p (fS l),(.fn 166 [] [(.ptr 0 0)])] [some (.box 124 [(.fn 113 [] [])])] (pI (bJ (fun x => !(orB x)) l)) [some (.box 124 [(.fn 113 [] [])])]:=by
 rcases aE.find (P:=Tp) (k:=1) (b:=lF) (fun i=>iX l i) (fun i _=>bS (iX l i) [(4,.p (aA (i:Int)))]) (iX l l.length) .ret (.exit 0) (by simp) (by simp) (fun x => !(orB x)) l
  (fun i x hx hp=>by obtain ⟨a,b,c,d,e,f,rfl⟩:=A6 (hu _ (Bi hx));exact aVe (by have:=aO hx;omega) hx hu (he _ (Bi hx)) (by simpa using hp) (aH (by have:=aO hx;omega)) rfl)
  (fun i x hx hp=>by obtain ⟨a,b,c,d,e,f,rfl⟩:=A6 (hu _ (Bi hx));exact aVd (by have:=aO hx;omega) hx hu (he _ (Bi hx)) (by simpa using hp))
  (aVf (l:=l) (i:=l.length) (by omega)) with ⟨i,x,h1,h2,h3,h4⟩ | ⟨h1,h2,h3⟩
 ·rw [eF h2];exact bVn h4
 ·rw [gS h1];exact bVm h3
theorem bVp(h0:l.length≤1000)(h1:uni 6 l)(h2:∀ x∈l,inR (x.getD 0 0-1))(A4:r0=(decide ((bJ (fun x => !(orB x)) l) ≥ 0))):FMM Tp 165 [(.p (fS l)),(.fn 166 [] [(.ptr 0 0)])] [some (.box 124 [(.fn 113 [] [])])] (pB r0) [some (.box 124 [(.fn 113 [] [])])]:=by
 subst A4;have k1:=mq [0] 1 (bVo l h0 h1 h2);exact FMM.fi 1 gE func165 [k1.o] (gc k1 gn)
theorem bVq(l:Lqq)(hl:l.length≤1000)(hu:uni 6 l)(he:∀ x∈l,inR (x.getD 0 0-1)):FMM Tp 165 [.p (fS l),(.fn 166 [] [(.ptr 0 0)])] [some (.box 124 [(.fn 113 [] [])])] (pB (l.any (fun x => !(orB x)))) [some (.box 124 [(.fn 113 [] [])])]:=bVp hl hu he (lZ _ _).symm
theorem cDp(h0:l.length≤1000)(h1:uni 6 l)(h2:∀ x∈l,inR (x.getD 0 0-1))(A4:r0=(!(l.any (fun x => !(orB x))))):FV Tp 106 [(.p (fS l)),(.fn 113 [] [])] base (pB r0) []:=by
 subst A4;have k1:=mq [0] 1 (bVq l h0 h1 h2);exact FV.fi func106 [k1.o] (gc k1 gn)
theorem bPl(l:Lqq)(hl:l.length≤1000)(hu:uni 6 l)(he:∀ x∈l,inR (x.getD 0 0-1)){base:Nat}:FV Tp 106 [.p (fS l),(.fn 113 [] [])] base (pB (l.all (orB))) []:=cDp hl hu he (by rw [List.all_eq_not_any_not])
theorem bVr(h0:uni 2 sk∧sk.length≤1000)(A4:r0=(!(inB sk [x0,x1,x2,x3,x4,x5]))):FMM Tp 166 [(.p (.agg [(aA x0),(aA x1),(aA x2),(aA x3),(aA x4),(aA x5)])),(.ptr 0 0)] [some (.box 124 [(.fn 111 [] [(.rp [(aA dl),(fS sk),(fS dc)] 0)])])] (pB r0) [some (.box 124 [(.fn 111 [] [(.rp [(aA dl),(fS sk),(fS dc)] 0)])])]:=by
 subst A4;have k1:=fk 2 (cDm x0 x1 x2 x3 x4 x5 dl sk dc h0) rfl;exact FMM.fi 1 gE func166 [k1.o] (gc k1 gn)
theorem aZo(x0:Int)(x1:Int)(x2:Int)(x3:Int)(x4:Int)(x5:Int)(dl:Int)(sk:Lqq)(dc:Lqq)(he:uni 2 sk∧sk.length≤1000):FMM Tp 166 [(.p (.agg [(aA x0),(aA x1),(aA x2),(aA x3),(aA x4),(aA x5)])),.ptr 0 0] [some (.box 124 [(.fn 111 [] [(.rp [(aA dl),(fS sk),(fS dc)] 0)])])] (pB (!(inB sk [x0,x1,x2,x3,x4,x5]))) [some (.box 124 [(.fn 111 [] [(.rp [(aA dl),(fS sk),(fS dc)] 0)])])]:=bVr he rfl
def iY(l:Lqq)(dl:Int)(sk:Lqq)(dc:Lqq)(i:Nat):St:=⟨fr 19 [(0,(.p (fS l))),(1,(.fn 166 [] [(.ptr 0 0)])),(7,(pI (l.length:Int))),(8,(pI (i:Int)))],[some (.box 124 [(.fn 111 [] [(.rp [(aA dl),(fS sk),(fS dc)] 0)])])]⟩
theorem bVs(hl0:aE Tp 1 lF (iY l dl sk dc 0) (.exit 0) (iY l dl sk dc Bm)):FMM Tp 77 [(.p (fS l)),(.fn 166 [] [(.ptr 0 0)])] [some (.box 124 [(.fn 111 [] [(.rp [(aA dl),(fS sk),(fS dc)] 0)])])] (pI (-1)) [some (.box 124 [(.fn 111 [] [(.rp [(aA dl),(fS sk),(fS dc)] 0)])])]:=FMM.fi 1 gE func77 [hl0.k 6 (gZ [2,5,9,10])] (gc hl0.code gn)
theorem bVt(hl0:aE Tp 1 lF (iY l dl sk dc 0) .ret (bS (iY l dl sk dc Bm) [(4,(pI (Bm:Int)))])):FMM Tp 77 [(.p (fS l)),(.fn 166 [] [(.ptr 0 0)])] [some (.box 124 [(.fn 111 [] [(.rp [(aA dl),(fS sk),(fS dc)] 0)])])] (pI (Bm:Int)) [some (.box 124 [(.fn 111 [] [(.rp [(aA dl),(fS sk),(fS dc)] 0)])])]:=FMM.fi 1 gE func77 [hl0.k 6 (gZ [2,5,9,10])] (gc hl0.code gn)
theorem aVg(h0:(i:Int)<(l.length:Int))(h1:l[i]? = some [Aa,Ab,Ac,Ad,Ae,Af])(h2:uni 6 l)(h3:uni 2 sk∧sk.length≤1000)(h4:(inB sk [Aa,Ab,Ac,Ad,Ae,Af])=false):aC Tp 1 lF (iY l dl sk dc i) .ret (bS (iY l dl sk dc i) [(4,(pI (i:Int)))]):=have k1:=mq [0] 1 (aZo Aa Ab Ac Ad Ae Af dl sk dc h3);aC.fi (gZ [2,2,5,2,9,10]) [bT,.x (.agg [(aA Aa),(aA Ab),(aA Ac),(aA Ad),(aA Ae),(aA Af)]),k1.o,bT] (gc (bM h4) (gc k1 (gfl h2 h1 (gc (aI h0) gn))))
theorem aVh(h0:(i:Int)<(l.length:Int))(h1:l[i]? = some [Aa,Ab,Ac,Ad,Ae,Af])(h2:uni 6 l)(h3:uni 2 sk∧sk.length≤1000)(h4:(inB sk [Aa,Ab,Ac,Ad,Ae,Af])=true)(h5:inR (((i+1):Nat):Int))(Ai:i'=(i+1)):aC Tp 1 lF (iY l dl sk dc i) .normal (iY l dl sk dc i'):=by
 subst Ai;have k1:=mq [0] 1 (aZo Aa Ab Ac Ad Ae Af dl sk dc h3);exact aC.fi (gZ [2,5,9,10]) [bT,.x (.agg [(aA Aa),(aA Ab),(aA Ac),(aA Ad),(aA Ae),(aA Af)]),k1.o,bF] (gc h5 (gc (aV h4) (gc k1 (gfl h2 h1 (gc (aI h0) gn)))))
theorem aVi(h0:(l.length:Int)≤(i:Int)):aC Tp 1 lF (iY l dl sk dc i) (.exit 0) (iY l dl sk dc i):=aC.fi (gZ [2,5,9,10]) [bF] (gc (aN h0) gn)
theorem bVu(l:Lqq)(dl:Int)(sk:Lqq)(dc:Lqq)(hl:l.length≤1000)(hu:uni 6 l)(he:∀ x∈l,uni 2 sk∧sk.length≤1000):FMM Tp 77 [.p (fS l),(.fn 166 [] [(.ptr 0 0)])] [some (.box 124 [(.fn 111 [] [(.rp [(aA dl),(fS sk),(fS dc)] 0)])])] (pI (bJ (fun x => !(inB sk x)) l)) [some (.box 124 [(.fn 111 [] [(.rp [(aA dl),(fS sk),(fS dc)] 0)])])]:=by
 rcases aE.find (P:=Tp) (k:=1) (b:=lF) (fun i=>iY l dl sk dc i) (fun i _=>bS (iY l dl sk dc i) [(4,.p (aA (i:Int)))]) (iY l dl sk dc l.length) .ret (.exit 0) (by simp) (by simp) (fun x => !(inB sk x)) l
  (fun i x hx hp=>by obtain ⟨a,b,c,d,e,f,rfl⟩:=A6 (hu _ (Bi hx));exact aVh (by have:=aO hx;omega) hx hu (he _ (Bi hx)) (by simpa using hp) (aH (by have:=aO hx;omega)) rfl)
  (fun i x hx hp=>by obtain ⟨a,b,c,d,e,f,rfl⟩:=A6 (hu _ (Bi hx));exact aVg (by have:=aO hx;omega) hx hu (he _ (Bi hx)) (by simpa using hp))
  (aVi (l:=l) (i:=l.length) (by omega)) with ⟨i,x,h1,h2,h3,h4⟩ | ⟨h1,h2,h3⟩
 ·rw [eF h2];exact bVt h4
 ·rw [gS h1];exact bVs h3
theorem bVv(h0:l.length≤1000)(h1:uni 6 l)(h2:∀ x∈l,uni 2 sk∧sk.length≤1000)(A4:r0=(decide ((bJ (fun x => !(inB sk x)) l) ≥ 0))):FMM Tp 165 [(.p (fS l)),(.fn 166 [] [(.ptr 0 0)])] [some (.box 124 [(.fn 111 [] [(.rp [(aA dl),(fS sk),(fS dc)] 0)])])] (pB r0) [some (.box 124 [(.fn 111 [] [(.rp [(aA dl),(fS sk),(fS dc)] 0)])])]:=by
 subst A4;have k1:=mq [0] 1 (bVu l dl sk dc h0 h1 h2);exact FMM.fi 1 gE func165 [k1.o] (gc k1 gn)
theorem bVw(l:Lqq)(dl:Int)(sk:Lqq)(dc:Lqq)(hl:l.length≤1000)(hu:uni 6 l)(he:∀ x∈l,uni 2 sk∧sk.length≤1000):FMM Tp 165 [.p (fS l),(.fn 166 [] [(.ptr 0 0)])] [some (.box 124 [(.fn 111 [] [(.rp [(aA dl),(fS sk),(fS dc)] 0)])])] (pB (l.any (fun x => !(inB sk x)))) [some (.box 124 [(.fn 111 [] [(.rp [(aA dl),(fS sk),(fS dc)] 0)])])]:=bVv hl hu he (lZ _ _).symm
theorem cDq(h0:l.length≤1000)(h1:uni 6 l)(h2:∀ x∈l,uni 2 sk∧sk.length≤1000)(A4:r0=(!(l.any (fun x => !(inB sk x))))):FV Tp 106 [(.p (fS l)),(.fn 111 [] [(.rp [(aA dl),(fS sk),(fS dc)] 0)])] base (pB r0) []:=by
 subst A4;have k1:=mq [0] 1 (bVw l dl sk dc h0 h1 h2);exact FV.fi func106 [k1.o] (gc k1 gn)
theorem aVj(l:Lqq)(dl:Int)(sk:Lqq)(dc:Lqq)(hl:l.length≤1000)(hu:uni 6 l)(he:∀ x∈l,uni 2 sk∧sk.length≤1000){base:Nat}:FV Tp 106 [.p (fS l),(.fn 111 [] [(.rp [(aA dl),(fS sk),(fS dc)] 0)])] base (pB (l.all (inB sk))) []:=cDq hl hu he (by rw [List.all_eq_not_any_not])
theorem cDr(h0:(within (sk.length:Int) 1 30)=false):FV Tp 44 [(.p (.agg [(aA dl),(fS sk),(fS dc)]))] base (pI 2) []:=have k1:=fk 1 (cC (sk.length:Int) 1 30) rfl;FV.fi func44 ([k1.o]++rT 5) (Bo (bM h0) (gc k1 gn))
theorem cDs(h0:(within (sk.length:Int) 1 30)=true)(h1:(40:Int)<(dc.length:Int)):FV Tp 44 [(.p (.agg [(aA dl),(fS sk),(fS dc)]))] base (pI 2) []:=have k1:=fk 1 (cC (sk.length:Int) 1 30) rfl;FV.fi func44 ([k1.o]++rF 5++[bT]) (gc (aI h1) (Bo (aV h0) (gc k1 gn)))
theorem cDt(h0:(within (sk.length:Int) 1 30)=true)(h1:(dc.length:Int)≤40)(h2:(within dl 0 10000)=false):FV Tp 44 [(.p (.agg [(aA dl),(fS sk),(fS dc)]))] base (pI 3) []:=have k1:=fk 1 (cC (sk.length:Int) 1 30) rfl;have k2:=fk 1 (cC dl 0 10000) rfl;FV.fi func44 ([k1.o]++rF 6++[k2.o]++rT 5) (Bo (bM h2) (gc k2 (gc (aN h1) (Bo (aV h0) (gc k1 gn)))))
theorem cDu(h0:(within (sk.length:Int) 1 30)=true)(h1:(dc.length:Int)≤40)(h2:(within dl 0 10000)=true)(h3:sk.length≤1000)(h4:uni 2 sk)(h5:(sk.all (skB))=false):FV Tp 44 [(.p (.agg [(aA dl),(fS sk),(fS dc)]))] base (pI 3) []:=have k1:=fk 1 (cC (sk.length:Int) 1 30) rfl;have k2:=fk 1 (cC dl 0 10000) rfl;have k3:=fk 1 (wT sk h3 h4) rfl;FV.fi func44 ([k1.o]++rF 6++[k2.o,bF,bF,bF,k3.o,bF,bF]++rT 5) (Bo (bM h5) (Az (aV h2) (gc k3 (Ak (aV h2) (gc k2 (gc (aN h1) (Bo (aV h0) (gc k1 gn))))))))
theorem cDv(h0:(within (sk.length:Int) 1 30)=true)(h1:(dc.length:Int)≤40)(h2:(within dl 0 10000)=true)(h3:sk.length≤1000)(h4:uni 2 sk)(h5:(sk.all (skB))=true)(h6:dc.length≤1000)(h7:uni 6 dc)(h8:(dc.all (dcB))=false):FV Tp 44 [(.p (.agg [(aA dl),(fS sk),(fS dc)]))] base (pI 3) []:=have k1:=fk 1 (cC (sk.length:Int) 1 30) rfl;have k2:=fk 1 (cC dl 0 10000) rfl;have k3:=fk 1 (wT sk h3 h4) rfl;have k4:=fk 1 (zQ dc h6 h7) rfl;FV.fi func44 ([k1.o]++rF 6++[k2.o,bF,bF,bF,k3.o]++rF 5++[k4.o,bF,bF,bT]) (gc (bM h8) (Az (aV h5) (gc k4 (Ak (aV h5) (Az (aV h2) (gc k3 (Ak (aV h2) (gc k2 (gc (aN h1) (Bo (aV h0) (gc k1 gn)))))))))))
theorem cDw(h0:(within (sk.length:Int) 1 30)=true)(h1:(dc.length:Int)≤40)(h2:(within dl 0 10000)=true)(h3:sk.length≤1000)(h4:uni 2 sk)(h5:(sk.all (skB))=true)(h6:dc.length≤1000)(h7:uni 6 dc)(h8:(dc.all (dcB))=true)(h9:uni 2 sk∧sk.length≤1000)(A5:(aQ sk 0).length≤1000)(Bd:∀ x∈(aQ sk 0),-1000000≤x∧x≤1000000)(Bh:(!decide (aQ sk 0).Nodup)=true):FV Tp 44 [(.p (.agg [(aA dl),(fS sk),(fS dc)]))] base (pI 5) []:=have k1:=fk 1 (cC (sk.length:Int) 1 30) rfl;have k2:=fk 1 (cC dl 0 10000) rfl;have k3:=fk 1 (wT sk h3 h4) rfl;have k4:=fk 1 (zQ dc h6 h7) rfl;have k5:=fk 1 (pE dl sk dc h9) rfl;FV.fi func44 ([k1.o]++rF 6++[k2.o,bF,bF,bF,k3.o]++rF 5++[k4.o,bF,bF,bF,k5.o,.c (pB (!decide (aQ sk 0).Nodup)) [],bT,bT,bT,bT]) (Aw Bh (gt (FC Tp 108 [(.own 1)] [(1,(.row 3 ((aQ sk 0).length) ((aQ sk 0).map aA)))] 2 (pB (!decide (aQ sk 0).Nodup)) []) (fv (yG (aQ sk 0) A5 Bd)) (gc k5 (gc (aV h8) (Az (aV h5) (gc k4 (Ak (aV h5) (Az (aV h2) (gc k3 (Ak (aV h2) (gc k2 (gc (aN h1) (Bo (aV h0) (gc k1 gn))))))))))))))
theorem cDx(h0:(within (sk.length:Int) 1 30)=true)(h1:(dc.length:Int)≤40)(h2:(within dl 0 10000)=true)(h3:sk.length≤1000)(h4:uni 2 sk)(h5:(sk.all (skB))=true)(h6:dc.length≤1000)(h7:uni 6 dc)(h8:(dc.all (dcB))=true)(h9:uni 2 sk∧sk.length≤1000)(A5:(aQ sk 0).length≤1000)(Bd:∀ x∈(aQ sk 0),-1000000≤x∧x≤1000000)(Bh:(!decide (aQ sk 0).Nodup)=false)(B9:uni 6 dc∧dc.length≤1000)(Di:(aQ dc 0).length≤1000)(G4:∀ x∈(aQ dc 0),-1000000≤x∧x≤1000000)(Hz:(!decide (aQ dc 0).Nodup)=true):FV Tp 44 [(.p (.agg [(aA dl),(fS sk),(fS dc)]))] base (pI 5) []:=have k1:=fk 1 (cC (sk.length:Int) 1 30) rfl;have k2:=fk 1 (cC dl 0 10000) rfl;have k3:=fk 1 (wT sk h3 h4) rfl;have k4:=fk 1 (zQ dc h6 h7) rfl;have k5:=fk 1 (pE dl sk dc h9) rfl;have k6:=fk 2 (aLn dl sk dc B9) rfl;FV.fi func44 ([k1.o]++rF 6++[k2.o,bF,bF,bF,k3.o]++rF 5++[k4.o,bF,bF,bF,k5.o,.c (pB (!decide (aQ sk 0).Nodup)) [],bF,bF,k6.o,bF,.c (pB (!decide (aQ dc 0).Nodup)) [],bF,bT]) (gc Hz (gc Bh (gt (FC Tp 108 [(.own 2)] [(2,(.row 3 ((aQ dc 0).length) ((aQ dc 0).map aA)))] 3 (pB (!decide (aQ dc 0).Nodup)) []) (fv (yG (aQ dc 0) Di G4)) (gc Bh (gc k6 (Az Bh (gt (FC Tp 108 [(.own 1)] [(1,(.row 3 ((aQ sk 0).length) ((aQ sk 0).map aA)))] 2 (pB (!decide (aQ sk 0).Nodup)) []) (fv (yG (aQ sk 0) A5 Bd)) (gc k5 (gc (aV h8) (Az (aV h5) (gc k4 (Ak (aV h5) (Az (aV h2) (gc k3 (Ak (aV h2) (gc k2 (gc (aN h1) (Bo (aV h0) (gc k1 gn)))))))))))))))))))
theorem cDy(h0:(within (sk.length:Int) 1 30)=true)(h1:(dc.length:Int)≤40)(h2:(within dl 0 10000)=true)(h3:sk.length≤1000)(h4:uni 2 sk)(h5:(sk.all (skB))=true)(h6:dc.length≤1000)(h7:uni 6 dc)(h8:(dc.all (dcB))=true)(h9:uni 2 sk∧sk.length≤1000)(A5:(aQ sk 0).length≤1000)(Bd:∀ x∈(aQ sk 0),-1000000≤x∧x≤1000000)(Bh:(!decide (aQ sk 0).Nodup)=false)(B9:uni 6 dc∧dc.length≤1000)(Di:(aQ dc 0).length≤1000)(G4:∀ x∈(aQ dc 0),-1000000≤x∧x≤1000000)(Hz:(!decide (aQ dc 0).Nodup)=false)(Jn:∀ x∈dc,uni 2 sk∧sk.length≤1000)(Ky:(dc.all (inB sk))=false):FV Tp 44 [(.p (.agg [(aA dl),(fS sk),(fS dc)]))] base (pI 1) []:=have k1:=fk 1 (cC (sk.length:Int) 1 30) rfl;have k2:=fk 1 (cC dl 0 10000) rfl;have k3:=fk 1 (wT sk h3 h4) rfl;have k4:=fk 1 (zQ dc h6 h7) rfl;have k5:=fk 1 (pE dl sk dc h9) rfl;have k6:=fk 2 (aLn dl sk dc B9) rfl;have k7:=fk 2 (aVj dc dl sk dc h6 h7 Jn) rfl;FV.fi func44 ([k1.o]++rF 6++[k2.o,bF,bF,bF,k3.o]++rF 5++[k4.o,bF,bF,bF,k5.o,.c (pB (!decide (aQ sk 0).Nodup)) [],bF,bF,k6.o,bF,.c (pB (!decide (aQ dc 0).Nodup)) [],bF,bF,.g 1 ⟨[],[1,2],[0],[]⟩,.x (fS dc),k7.o,bT]) (gc (bM Ky) (gc k7 (gr (fS dc) (gc Hz (gc Bh (gt (FC Tp 108 [(.own 2)] [(2,(.row 3 ((aQ dc 0).length) ((aQ dc 0).map aA)))] 3 (pB (!decide (aQ dc 0).Nodup)) []) (fv (yG (aQ dc 0) Di G4)) (gc Bh (gc k6 (Az Bh (gt (FC Tp 108 [(.own 1)] [(1,(.row 3 ((aQ sk 0).length) ((aQ sk 0).map aA)))] 2 (pB (!decide (aQ sk 0).Nodup)) []) (fv (yG (aQ sk 0) A5 Bd)) (gc k5 (gc (aV h8) (Az (aV h5) (gc k4 (Ak (aV h5) (Az (aV h2) (gc k3 (Ak (aV h2) (gc k2 (gc (aN h1) (Bo (aV h0) (gc k1 gn))))))))))))))))))))))
theorem cDz(h0:(within (sk.length:Int) 1 30)=true)(h1:(dc.length:Int)≤40)(h2:(within dl 0 10000)=true)(h3:sk.length≤1000)(h4:uni 2 sk)(h5:(sk.all (skB))=true)(h6:dc.length≤1000)(h7:uni 6 dc)(h8:(dc.all (dcB))=true)(h9:uni 2 sk∧sk.length≤1000)(A5:(aQ sk 0).length≤1000)(Bd:∀ x∈(aQ sk 0),-1000000≤x∧x≤1000000)(Bh:(!decide (aQ sk 0).Nodup)=false)(B9:uni 6 dc∧dc.length≤1000)(Di:(aQ dc 0).length≤1000)(G4:∀ x∈(aQ dc 0),-1000000≤x∧x≤1000000)(Hz:(!decide (aQ dc 0).Nodup)=false)(Jn:∀ x∈dc,uni 2 sk∧sk.length≤1000)(Ky:(dc.all (inB sk))=true)(Mx:∀ x∈dc,inR (x.getD 0 0-1))(My:(dc.all (orB))=false):FV Tp 44 [(.p (.agg [(aA dl),(fS sk),(fS dc)]))] base (pI 4) []:=have k1:=fk 1 (cC (sk.length:Int) 1 30) rfl;have k2:=fk 1 (cC dl 0 10000) rfl;have k3:=fk 1 (wT sk h3 h4) rfl;have k4:=fk 1 (zQ dc h6 h7) rfl;have k5:=fk 1 (pE dl sk dc h9) rfl;have k6:=fk 2 (aLn dl sk dc B9) rfl;have k7:=fk 2 (aVj dc dl sk dc h6 h7 Jn) rfl;have k8:=fk 2 (bPl dc h6 h7 Mx) rfl;FV.fi func44 ([k1.o]++rF 6++[k2.o,bF,bF,bF,k3.o]++rF 5++[k4.o,bF,bF,bF,k5.o,.c (pB (!decide (aQ sk 0).Nodup)) [],bF,bF,k6.o,bF,.c (pB (!decide (aQ dc 0).Nodup)) [],bF,bF,.g 1 ⟨[],[1,2],[0],[]⟩,.x (fS dc),k7.o,bF,.x (fS dc),k8.o,bT]) (gc (bM My) (gc k8 (gr (fS dc) (gc (aV Ky) (gc k7 (gr (fS dc) (gc Hz (gc Bh (gt (FC Tp 108 [(.own 2)] [(2,(.row 3 ((aQ dc 0).length) ((aQ dc 0).map aA)))] 3 (pB (!decide (aQ dc 0).Nodup)) []) (fv (yG (aQ dc 0) Di G4)) (gc Bh (gc k6 (Az Bh (gt (FC Tp 108 [(.own 1)] [(1,(.row 3 ((aQ sk 0).length) ((aQ sk 0).map aA)))] 2 (pB (!decide (aQ sk 0).Nodup)) []) (fv (yG (aQ sk 0) A5 Bd)) (gc k5 (gc (aV h8) (Az (aV h5) (gc k4 (Ak (aV h5) (Az (aV h2) (gc k3 (Ak (aV h2) (gc k2 (gc (aN h1) (Bo (aV h0) (gc k1 gn)))))))))))))))))))))))))
theorem cEa(h0:(within (sk.length:Int) 1 30)=true)(h1:(dc.length:Int)≤40)(h2:(within dl 0 10000)=true)(h3:sk.length≤1000)(h4:uni 2 sk)(h5:(sk.all (skB))=true)(h6:dc.length≤1000)(h7:uni 6 dc)(h8:(dc.all (dcB))=true)(h9:uni 2 sk∧sk.length≤1000)(A5:(aQ sk 0).length≤1000)(Bd:∀ x∈(aQ sk 0),-1000000≤x∧x≤1000000)(Bh:(!decide (aQ sk 0).Nodup)=false)(B9:uni 6 dc∧dc.length≤1000)(Di:(aQ dc 0).length≤1000)(G4:∀ x∈(aQ dc 0),-1000000≤x∧x≤1000000)(Hz:(!decide (aQ dc 0).Nodup)=false)(Jn:∀ x∈dc,uni 2 sk∧sk.length≤1000)(Ky:(dc.all (inB sk))=true)(Mx:∀ x∈dc,inR (x.getD 0 0-1))(My:(dc.all (orB))=true):FV Tp 44 [(.p (.agg [(aA dl),(fS sk),(fS dc)]))] base (pI 0) []:=have k1:=fk 1 (cC (sk.length:Int) 1 30) rfl;have k2:=fk 1 (cC dl 0 10000) rfl;have k3:=fk 1 (wT sk h3 h4) rfl;have k4:=fk 1 (zQ dc h6 h7) rfl;have k5:=fk 1 (pE dl sk dc h9) rfl;have k6:=fk 2 (aLn dl sk dc B9) rfl;have k7:=fk 2 (aVj dc dl sk dc h6 h7 Jn) rfl;have k8:=fk 2 (bPl dc h6 h7 Mx) rfl;FV.fi func44 ([k1.o]++rF 6++[k2.o,bF,bF,bF,k3.o]++rF 5++[k4.o,bF,bF,bF,k5.o,.c (pB (!decide (aQ sk 0).Nodup)) [],bF,bF,k6.o,bF,.c (pB (!decide (aQ dc 0).Nodup)) [],bF,bF,.g 1 ⟨[],[1,2],[0],[]⟩,.x (fS dc),k7.o,bF,.x (fS dc),k8.o,bF]) (gc (aV My) (gc k8 (gr (fS dc) (gc (aV Ky) (gc k7 (gr (fS dc) (gc Hz (gc Bh (gt (FC Tp 108 [(.own 2)] [(2,(.row 3 ((aQ dc 0).length) ((aQ dc 0).map aA)))] 3 (pB (!decide (aQ dc 0).Nodup)) []) (fv (yG (aQ dc 0) Di G4)) (gc Bh (gc k6 (Az Bh (gt (FC Tp 108 [(.own 1)] [(1,(.row 3 ((aQ sk 0).length) ((aQ sk 0).map aA)))] 2 (pB (!decide (aQ sk 0).Nodup)) []) (fv (yG (aQ sk 0) A5 Bd)) (gc k5 (gc (aV h8) (Az (aV h5) (gc k4 (Ak (aV h5) (Az (aV h2) (gc k3 (Ak (aV h2) (gc k2 (gc (aN h1) (Bo (aV h0) (gc k1 gn)))))))))))))))))))))))))
end
section

def jQ(dl:Int)(sk dc:Lqq):Int :=
 if within (sk.length:Int) 1 30=false∨(40:Int)<(dc.length:Int) then 2
 else if within dl 0 10000=false∨sk.all skB=false∨dc.all dcB=false then 3
 else if ¬ (aQ sk 0).Nodup∨¬ (aQ dc 0).Nodup then 5
 else if dc.all (inB sk)=false then 1
 else if dc.all orB=false then 4 else 0

structure bR (dl:Int) (sk dc:Lqq):Prop where
 us:uni 2 sk
 ud:uni 6 dc
 len:1≤sk.length∧sk.length≤30
 len2:dc.length≤40
 hdl:0≤dl∧dl≤10000
 hsk:∀ x∈sk,skB x=true
 hdc:∀ x∈dc,dcB x=true
 ns:(aQ sk 0).Nodup
 nd:(aQ dc 0).Nodup
 inb:∀ x∈dc,inB sk x=true
 ord:∀ x∈dc,orB x=true

theorem bV{n lo hi:Int}:within n lo hi=true↔lo≤n∧n≤hi:=by simp [within]
theorem nC(f:Lqq)(j:Nat):(aQ f j).length=f.length:=by simp [aQ]
theorem aZj{f:Lqq}{j:Nat}{n:Int}(h:n∈aQ f j):∃ x∈f,x.getD j 0=n:=by simpa [aQ] using h
theorem aLm{x:List Int}:skB x=true↔(1≤x.getD 0 0∧x.getD 0 0≤999) ∧ -1≤x.getD 1 0∧x.getD 1 0≤360000:=by
 unfold skB;rw [B7,bV,bV]
theorem iB{x:List Int}:dcB x=true↔(1≤x.getD 0 0∧x.getD 0 0≤9999)∧(0≤x.getD 1 0∧x.getD 1 0≤9)∧(0≤x.getD 2 0∧x.getD 2 0≤10000)∧0≤x.getD 4 0∧x.getD 4 0≤mT (x.getD 1 0):=by
 unfold dcB;rw [B7,B7,B7,bV,bV,bV,bV]

theorem bPi(dl:Int)(sk dc:Lqq)(us:uni 2 sk)(ud:uni 6 dc){base:Nat}:FV Tp 44 [.p (.agg (bB dl sk dc))] base (.p (aA (jQ dl sk dc))) []:=by
 unfold jQ;cases h1:within (sk.length:Int) 1 30 with
 | false=>rw [if_pos (.inl rfl)];exact cDr h1
 | true =>
 have l1:=(bV.1 h1)
 by_cases h2:(40:Int)<(dc.length:Int)
 ·rw [if_pos (.inr h2)];exact cDs h1 h2
 rw [if_neg (by simp [h2])]
 have Gj:(dc.length:Int)≤40:=by omega
 cases h3:within dl 0 10000 with
 | false=>rw [if_pos (.inl rfl)];exact cDt h1 Gj h3
 | true =>
 have hs:sk.length≤1000:=by omega
 have hd:dc.length≤1000:=by omega
 cases h4:sk.all skB with
 | false=>rw [if_pos (.inr (.inl rfl))];exact cDu h1 Gj h3 hs us h4
 | true =>
 cases h5:dc.all dcB with
 | false=>rw [if_pos (.inr (.inr rfl))];exact cDv h1 Gj h3 hs us h4 hd ud h5
 | true =>
 rw [if_neg (by simp)]
 have b1:∀ x∈aQ sk 0,-1000000≤x∧x≤1000000:=fun n hn=>by
  obtain ⟨x,hx,rfl⟩:=aZj hn;have:=aLm.1 (gJ.1 h4 x hx);omega
 have b2:∀ x∈aQ dc 0,-1000000≤x∧x≤1000000:=fun n hn=>by
  obtain ⟨x,hx,rfl⟩:=aZj hn;have:=iB.1 (gJ.1 h5 x hx);omega
 have b3:∀ x∈dc,inR (x.getD 0 0-1):=fun x hx=>by
  have:=iB.1 (gJ.1 h5 x hx);unfold inR;omega
 have c1:(aQ sk 0).length≤1000:=by rw [nC];exact hs
 have c2:(aQ dc 0).length≤1000:=by rw [nC];exact hd
 by_cases h6:(aQ sk 0).Nodup
 ·by_cases h7:(aQ dc 0).Nodup
  ·rw [if_neg (by simp [h6,h7])]
   cases h8:dc.all (inB sk) with
   | false=>rw [if_pos rfl];exact cDy h1 Gj h3 hs us h4 hd ud h5 ⟨us,hs⟩ c1 b1 (by simp [h6]) ⟨ud,hd⟩ c2 b2 (by simp [h7]) (fun _ _=>⟨us,hs⟩) h8
   | true =>
    rw [if_neg (by simp)]
    cases h9:dc.all orB with
    | false=>rw [if_pos rfl];exact cDz h1 Gj h3 hs us h4 hd ud h5 ⟨us,hs⟩ c1 b1 (by simp [h6]) ⟨ud,hd⟩ c2 b2 (by simp [h7]) (fun _ _=>⟨us,hs⟩) h8 b3 h9
    | true=>rw [if_neg (by simp)];exact cEa h1 Gj h3 hs us h4 hd ud h5 ⟨us,hs⟩ c1 b1 (by simp [h6]) ⟨ud,hd⟩ c2 b2 (by simp [h7]) (fun _ _=>⟨us,hs⟩) h8 b3 h9
  ·rw [if_pos (.inr h7)];exact cDx h1 Gj h3 hs us h4 hd ud h5 ⟨us,hs⟩ c1 b1 (by simp [h6]) ⟨ud,hd⟩ c2 b2 (by simp [h7])
 ·rw [if_pos (.inl h6)];exact cDw h1 Gj h3 hs us h4 hd ud h5 ⟨us,hs⟩ c1 b1 (by simp [h6])

theorem aZk{dl:Int}{sk dc:Lqq}(us:uni 2 sk)(ud:uni 6 dc):jQ dl sk dc=0↔bR dl sk dc:=by
 unfold jQ;constructor
 ·intro h
  split at h
  ·simp at h
  rename_i h1
  split at h
  ·simp at h
  rename_i h2
  split at h
  ·simp at h
  rename_i h3
  split at h
  ·simp at h
  rename_i h4
  split at h
  ·simp at h
  rename_i h5;simp only [not_or,Bool.not_eq_false,Int.not_lt,Classical.not_not] at h1 h2 h3 h4 h5
  have:=bV.1 h1.1;exact ⟨us,ud,by omega,by omega,bV.1 h2.1,fun x hx=>gJ.1 h2.2.1 x hx,fun x hx=>gJ.1 h2.2.2 x hx,h3.1,h3.2,fun x hx=>gJ.1 h4 x hx,fun x hx=>gJ.1 h5 x hx⟩
 ·intro h
  have e1:within (sk.length:Int) 1 30=true:=bV.2 (by have:=h.len;omega)
  have e2:within dl 0 10000=true:=bV.2 h.hdl;have e3:sk.all skB=true:=gJ.2 h.hsk;have e4:dc.all dcB=true:=gJ.2 h.hdc;have e5:dc.all (inB sk)=true:=gJ.2 h.inb;have e6:dc.all orB=true:=gJ.2 h.ord;have:=h.len2;rw [if_neg (by rw [e1];simp;omega),if_neg (by rw [e2,e3,e4];simp),if_neg (by simp [h.ns,h.nd]),if_neg (by rw [e5];simp),if_neg (by rw [e6];simp)]
end
end KV
end Go.Proofs
section
namespace Go.Proofs
open Go.RowKit Go.Lib Go.Sort
namespace KV
open Tryz

theorem aUv{P:Program}{C:Cx}{w w':World}{ty n b:Nat}{cs Bp:List PV}{arr Fo:Array Value}(hM:aT P C [some (.row ty n cs)] w)(hι:C.ι 0=some b)(hb:w.heap[b]? = some (.cells arr ty (0,0)))
  (hos:w'.os=w.os) (htp:w'.tape=w.tape) (hou:w'.output=w.output) (hsz:w.heap.size≤w'.heap.size) (hot:∀ b',b'<w.heap.size→b'≠b→w'.heap[b']? = w.heap[b']?)
  (A1:w'.heap[b]? = some (.cells Fo ty (0,0))) (hsa:Fo.size=arr.size) (hl:Bp.length=cs.length) (hr:∀ j (h:j<Bp.length),cM C.F w' Bp[j] (Fo.getD j undef)) (ho:∀ j,j<Bp.length→(Fo.getD j undef).oneCell'=true) :
  Fr C [some (.row ty n cs)] w C [some (.row ty n Bp)] w'∧aT P C [some (.row ty n Bp)] w':=by
 have Kq:∀ (id:Nat) (o:AO),([some (.row ty n cs)]:Mem)[id]? = some (some o)→id=0∧o = .row ty n cs:=fun id o h=>by
  cases id with
  | zero=>simp at h;exact ⟨rfl,h.symm⟩
  | succ i=>simp at h
 have Dq:∀ (id:Nat) (o:AO),([some (.row ty n Bp)]:Mem)[id]? = some (some o)→id=0∧o = .row ty n Bp:=fun id o h=>by
  cases id with
  | zero=>simp at h;exact ⟨rfl,h.symm⟩
  | succ i=>simp at h
 refine ⟨⟨hos,htp,hou,hsz,fun b' h1 h2=>hot b' h1 fun he => ?_,fun id o hm => ?_,fun id o hm Dh n' Ff hx => ?_,fun id o hm o' hx hl => ?_,fun id o b' hm hl hbb => ?_,fun _ h=>h,fun _ h => .inl h⟩,
  ⟨fun id Dh n' Ff hm => ?_,fun id Dh Ff hm => ?_,fun id es cl hm => ?_,fun id Gk o o' b' h1 _ h2 _ _ _ => ?_,fun id o b' hm hl hbb => ?_,fun b' hf=>fY (hM.Fs b' hf) hsz,fun id o b' hm hl hbb => ?_⟩⟩
 ·subst he;exact h2 0 _ rfl rfl hι
 ·obtain ⟨rfl,rfl⟩:=Kq id o hm
  exact ⟨⟨_,rfl⟩,rfl,rfl⟩
 ·obtain ⟨rfl,rfl⟩:=Kq id o hm
  obtain ⟨_,he⟩:=Dq _ _ hx;cases he;exact ⟨cs,rfl⟩
 ·obtain ⟨rfl,rfl⟩:=Kq id o hm
  rfl
 ·obtain ⟨rfl,rfl⟩:=Dq id o hm
  exact .inr ⟨0,_,rfl,rfl,hbb⟩
 ·obtain ⟨rfl,he⟩:=Dq id _ hm
  cases he
  rcases hM.row 0 _ _ _ rfl with ⟨hn,_⟩ | ⟨b',Wi,i,q1,q2,q3,q4,q5,q6,q7,q8⟩
  ·rw [hι] at hn;cases hn
  ·rw [hι] at q1;cases q1
   rw [hb] at q2;cases q2
   exact .inr ⟨b,Fo,i,hι,A1,q3,by rw [hsa,q4],by rw [hl,q5],q6,q7,hr,ho⟩
 ·obtain ⟨_,he⟩:=Dq id _ hm;cases he
 ·obtain ⟨_,he⟩:=Dq id _ hm;cases he
 ·obtain ⟨rfl,_⟩:=Dq id _ h1
  obtain ⟨rfl,_⟩:=Dq Gk _ h2;rfl
 ·obtain ⟨rfl,_⟩:=Dq id _ hm
  exact hM.nF 0 _ b' rfl rfl hbb
 ·obtain ⟨rfl,_⟩:=Dq id _ hm
  exact fY (hM.lt 0 _ b' rfl rfl hbb) hsz

def oA(k:Nat)(x:List Int):List Value:=(List.range k).map fun i => .int .i64 (x.getD i 0)
theorem aEv(k:Nat)(x:List Int):(oA k x).length=k:=by simp [oA]
theorem aEw(k:Nat)(x:List Int):∀ v∈oA k x,v.oneCell'=true:=fun v hv=>by
 obtain ⟨i,_,rfl⟩:=Bs.1 hv;rfl
def cfL(x y:List Int):Int:=compareInt (x.getD 0 0) (y.getD 0 0)
theorem ltL(x y:List Int):ltOf cfL x y=decide (x.getD 0 0<y.getD 0 0):=by
 unfold ltOf cfL compareInt;generalize x.getD 0 0=a;generalize y.getD 0 0=b
 by_cases h1:a<b
 ·simp [h1]
 ·by_cases h2:b<a <;> simp [h1,h2]
theorem cKp:SWO (ltOf cfL) where
 irrefl x:=by rw [ltL];simp
 trans x y z h1 h2:=by rw [ltL] at *;simp only [decide_eq_true_eq] at *;omega
 ntrans x y z h1 h2:=by rw [ltL] at *;simp only [decide_eq_false_iff_not] at *;omega
def aB(l:Lqq):Lqq:=l.mergeSort fun a b=>decide (a.getD 0 0≤b.getD 0 0)
theorem dY(l:Lqq):(aB l).Perm l:=List.mergeSort_perm _ _
theorem iU(l:Lqq):(aB l).Pairwise fun a b=>a.getD 0 0≤b.getD 0 0:=by
 have:=List.pairwise_mergeSort (le:=fun a b:List Int=>decide (a.getD 0 0≤b.getD 0 0)) (fun a b c h1 h2=>by simp only [decide_eq_true_eq] at *;omega) (fun a b=>by simp only [wN,decide_eq_true_eq];omega) l
 exact this.imp fun h=>of_decide_eq_true h
theorem aLl{l:Lqq}(hn:(aQ l 0).Nodup){a b:List Int}(ha:a∈l)(hb:b∈l)(h:a.getD 0 0=b.getD 0 0):a=b:=by
 induction l with
 | nil=>cases ha
 | cons x l ih =>
  unfold aQ at hn ih
  rw [fZ,List.nodup_cons] at hn
  rcases fU.1 ha with rfl | Mi <;> rcases fU.1 hb with rfl | A1
  ·rfl
  ·exact absurd (Bs.2 ⟨b,A1,h.symm⟩) hn.1
  ·exact absurd (Bs.2 ⟨a,Mi,h⟩) hn.1
  ·exact ih hn.2 Mi A1
theorem aUw{l l':Lqq}(hn:(aQ l 0).Nodup)(hp:l'.Perm l)(hs:l'.Pairwise fun a b=>a.getD 0 0≤b.getD 0 0):l'=aB l :=
 List.Perm.eq_of_pairwise (le:=fun a b=>a.getD 0 0≤b.getD 0 0) (fun a b ha hb h1 h2=>aLl hn (hp.mem_iff.1 ha) ((dY l).mem_iff.1 hb) (by omega)) hs (iU l) (hp.trans (dY l).symm)
theorem bPh{k:Nat}{l l':Lqq}(hp:l'.Perm l)(hu:uni k l):uni k l':=fun x hx=>hu x (hp.mem_iff.1 hx)
theorem nI{k:Nat}{l:Lqq}(hu:uni k l):uni k (aB l):=bPh (dY l) hu
theorem eG(l:Lqq):(aB l).length=l.length:=(dY l).length_eq
end KV
end Go.Proofs
end
section
namespace Go.Proofs
open Go.Shelf
def Tryz.sortSk_ren:Go.Shelf.Ren:=⟨fun | 6=>114 | 15=>131 | 14=>167 | 28=>180 | 29=>181 | 20=>191 | 21=>192 | 22=>193 | 23=>194 | 24=>195 | 25=>196 | 26=>197 | 27=>198 | 46=>218 | 47=>208 | 48=>209 | 49=>219 | 50=>220 | 57=>226 | n=>n,fun | 22=>23 | 24=>31 | 25=>157 | 3=>3 | 39=>172 | 0=>0 | 53=>127 | 55=>225 | 4=>4 | 46=>218 | 45=>217 | 50=>106 | 5=>5 | 9=>9 | 66=>245 | 70=>249 | 76=>257 | 77=>198 | n=>n,fun | n=>n⟩
theorem Tryz.sortSk:Go.Proofs.SlLaysF0.n6 Tryz.prog Tryz.sortSk_ren:={
 mixed:=by kernel_rfl
 f6:=⟨Tryz.f114.name,by decide,func114.trans (congrArg some (by kernel_rfl))⟩
 f14:=⟨Tryz.f167.name,by decide,func167.trans (congrArg some (by kernel_rfl))⟩
 f15:=func131.trans (congrArg some (by kernel_rfl))
 f20:=⟨Tryz.f191.name,by decide,func191.trans (congrArg some (by kernel_rfl))⟩
 f21:=⟨Tryz.f192.name,by decide,func192.trans (congrArg some (by kernel_rfl))⟩
 f22:=⟨Tryz.f193.name,by decide,func193.trans (congrArg some (by kernel_rfl))⟩
 f23:=⟨Tryz.f194.name,by decide,func194.trans (congrArg some (by kernel_rfl))⟩
 f24:=⟨Tryz.f195.name,by decide,func195.trans (congrArg some (by kernel_rfl))⟩
 f25:=⟨Tryz.f196.name,by decide,func196.trans (congrArg some (by kernel_rfl))⟩
 f26:=⟨Tryz.f197.name,by decide,func197.trans (congrArg some (by kernel_rfl))⟩
 f27:=⟨Tryz.f198.name,by decide,func198.trans (congrArg some (by kernel_rfl))⟩
 f28:=func180.trans (congrArg some (by kernel_rfl))
 f29:=func181.trans (congrArg some (by kernel_rfl))
 f46:=⟨Tryz.f218.name,by decide,func218.trans (congrArg some (by kernel_rfl))⟩
 f47:=func208.trans (congrArg some (by kernel_rfl))
 f48:=func209.trans (congrArg some (by kernel_rfl))
 f49:=⟨Tryz.f219.name,by decide,func219.trans (congrArg some (by kernel_rfl))⟩
 f50:=⟨Tryz.f220.name,by decide,func220.trans (congrArg some (by kernel_rfl))⟩
 f57:=⟨Tryz.f226.name,by decide,func226.trans (congrArg some (by kernel_rfl))⟩
 t0:=Tryz.underlying0
 a0:=Tryz.isAgg0
 z0:=Tryz.sizeOf0
 v0:=Tryz.zeroValue0
 t3:=Tryz.underlying3
 a3:=Tryz.isAgg3
 z3:=Tryz.sizeOf3
 v3:=Tryz.zeroValue3
 t4:=Tryz.underlying4
 a4:=Tryz.isAgg4
 z4:=Tryz.sizeOf4
 v4:=Tryz.zeroValue4
 t5:=Tryz.underlying5
 a5:=Tryz.isAgg5
 z5:=Tryz.sizeOf5
 v5:=Tryz.zeroValue5
 t9:=Tryz.underlying9
 a9:=Tryz.isAgg9
 z9:=Tryz.sizeOf9
 v9:=Tryz.zeroValue9
 t22:=Tryz.underlying23
 a22:=Tryz.isAgg23
 z22:=Tryz.sizeOf23
 v22:=Tryz.zeroValue23
 t25:=Tryz.underlying157
 a25:=Tryz.isAgg157
 z25:=Tryz.sizeOf157
 v25:=Tryz.zeroValue157
 t39:=Tryz.underlying172
 a39:=Tryz.isAgg172
 z39:=Tryz.sizeOf172
 v39:=Tryz.zeroValue172
 t45:=Tryz.underlying217
 a45:=Tryz.isAgg217
 z45:=Tryz.sizeOf217
 v45:=Tryz.zeroValue217
 t46:=Tryz.underlying218
 a46:=Tryz.isAgg218
 z46:=Tryz.sizeOf218
 v46:=Tryz.zeroValue218
 t50:=Tryz.underlying106
 a50:=Tryz.isAgg106
 z50:=Tryz.sizeOf106
 v50:=Tryz.zeroValue106
 t53:=Tryz.underlying127
 a53:=Tryz.isAgg127
 z53:=Tryz.sizeOf127
 v53:=Tryz.zeroValue127
 t55:=Tryz.underlying225
 a55:=Tryz.isAgg225
 z55:=Tryz.sizeOf225
 v55:=Tryz.zeroValue225
 t66:=Tryz.underlying245
 a66:=Tryz.isAgg245
 z66:=Tryz.sizeOf245
 v66:=Tryz.zeroValue245
 t70:=Tryz.underlying249
 a70:=Tryz.isAgg249
 z70:=Tryz.sizeOf249
 v70:=Tryz.zeroValue249
 t76:=Tryz.underlying257
 a76:=Tryz.isAgg257
 z76:=Tryz.sizeOf257
 v76:=Tryz.zeroValue257
 t77:=Tryz.underlying198
 a77:=Tryz.isAgg198
 z77:=Tryz.sizeOf198
 v77:=Tryz.zeroValue198 }
def Tryz.sortDc_ren:Go.Shelf.Ren:=⟨fun | 6=>117 | 15=>131 | 14=>169 | 28=>180 | 29=>181 | 20=>199 | 21=>200 | 22=>201 | 23=>202 | 24=>203 | 25=>204 | 26=>205 | 27=>206 | 46=>221 | 47=>208 | 48=>209 | 49=>222 | 50=>223 | 57=>227 | n=>n,fun | 22=>24 | 24=>44 | 25=>159 | 3=>3 | 39=>172 | 0=>0 | 53=>127 | 55=>225 | 4=>4 | 46=>218 | 45=>217 | 50=>106 | 5=>5 | 9=>9 | 66=>245 | 70=>249 | 76=>257 | 77=>198 | n=>n,fun | n=>n⟩
theorem Tryz.sortDc:Go.Proofs.SlLaysF0.n6 Tryz.prog Tryz.sortDc_ren:={
 mixed:=by kernel_rfl
 f6:=⟨Tryz.f117.name,by decide,func117.trans (congrArg some (by kernel_rfl))⟩
 f14:=⟨Tryz.f169.name,by decide,func169.trans (congrArg some (by kernel_rfl))⟩
 f15:=func131.trans (congrArg some (by kernel_rfl))
 f20:=⟨Tryz.f199.name,by decide,func199.trans (congrArg some (by kernel_rfl))⟩
 f21:=⟨Tryz.f200.name,by decide,func200.trans (congrArg some (by kernel_rfl))⟩
 f22:=⟨Tryz.f201.name,by decide,func201.trans (congrArg some (by kernel_rfl))⟩
 f23:=⟨Tryz.f202.name,by decide,func202.trans (congrArg some (by kernel_rfl))⟩
 f24:=⟨Tryz.f203.name,by decide,func203.trans (congrArg some (by kernel_rfl))⟩
 f25:=⟨Tryz.f204.name,by decide,func204.trans (congrArg some (by kernel_rfl))⟩
 f26:=⟨Tryz.f205.name,by decide,func205.trans (congrArg some (by kernel_rfl))⟩
 f27:=⟨Tryz.f206.name,by decide,func206.trans (congrArg some (by kernel_rfl))⟩
 f28:=func180.trans (congrArg some (by kernel_rfl))
 f29:=func181.trans (congrArg some (by kernel_rfl))
 f46:=⟨Tryz.f221.name,by decide,func221.trans (congrArg some (by kernel_rfl))⟩
 f47:=func208.trans (congrArg some (by kernel_rfl))
 f48:=func209.trans (congrArg some (by kernel_rfl))
 f49:=⟨Tryz.f222.name,by decide,func222.trans (congrArg some (by kernel_rfl))⟩
 f50:=⟨Tryz.f223.name,by decide,func223.trans (congrArg some (by kernel_rfl))⟩
 f57:=⟨Tryz.f227.name,by decide,func227.trans (congrArg some (by kernel_rfl))⟩
 t0:=Tryz.underlying0
 a0:=Tryz.isAgg0
 z0:=Tryz.sizeOf0
 v0:=Tryz.zeroValue0
 t3:=Tryz.underlying3
 a3:=Tryz.isAgg3
 z3:=Tryz.sizeOf3
 v3:=Tryz.zeroValue3
 t4:=Tryz.underlying4
 a4:=Tryz.isAgg4
 z4:=Tryz.sizeOf4
 v4:=Tryz.zeroValue4
 t5:=Tryz.underlying5
 a5:=Tryz.isAgg5
 z5:=Tryz.sizeOf5
 v5:=Tryz.zeroValue5
 t9:=Tryz.underlying9
 a9:=Tryz.isAgg9
 z9:=Tryz.sizeOf9
 v9:=Tryz.zeroValue9
 t22:=Tryz.underlying24
 a22:=Tryz.isAgg24
 z22:=Tryz.sizeOf24
 v22:=Tryz.zeroValue24
 t25:=Tryz.underlying159
 a25:=Tryz.isAgg159
 z25:=Tryz.sizeOf159
 v25:=Tryz.zeroValue159
 t39:=Tryz.underlying172
 a39:=Tryz.isAgg172
 z39:=Tryz.sizeOf172
 v39:=Tryz.zeroValue172
 t45:=Tryz.underlying217
 a45:=Tryz.isAgg217
 z45:=Tryz.sizeOf217
 v45:=Tryz.zeroValue217
 t46:=Tryz.underlying218
 a46:=Tryz.isAgg218
 z46:=Tryz.sizeOf218
 v46:=Tryz.zeroValue218
 t50:=Tryz.underlying106
 a50:=Tryz.isAgg106
 z50:=Tryz.sizeOf106
 v50:=Tryz.zeroValue106
 t53:=Tryz.underlying127
 a53:=Tryz.isAgg127
 z53:=Tryz.sizeOf127
 v53:=Tryz.zeroValue127
 t55:=Tryz.underlying225
 a55:=Tryz.isAgg225
 z55:=Tryz.sizeOf225
 v55:=Tryz.zeroValue225
 t66:=Tryz.underlying245
 a66:=Tryz.isAgg245
 z66:=Tryz.sizeOf245
 v66:=Tryz.zeroValue245
 t70:=Tryz.underlying249
 a70:=Tryz.isAgg249
 z70:=Tryz.sizeOf249
 v70:=Tryz.zeroValue249
 t76:=Tryz.underlying257
 a76:=Tryz.isAgg257
 z76:=Tryz.sizeOf257
 v76:=Tryz.zeroValue257
 t77:=Tryz.underlying198
 a77:=Tryz.isAgg198
 z77:=Tryz.sizeOf198
 v77:=Tryz.zeroValue198 }
def Tryz.cmpInt_ren:Go.Shelf.Ren:=⟨fun | 5=>116 | 7=>168 | n=>n,fun | 22=>3 | 3=>3 | 4=>4 | n=>n,fun | n=>n⟩
theorem Tryz.cmpInt:Go.Proofs.SlLaysC2.n5 Tryz.prog Tryz.cmpInt_ren:={
 mixed:=by kernel_rfl
 f5:=⟨Tryz.f116.name,by decide,func116.trans (congrArg some (by kernel_rfl))⟩
 f7:=⟨Tryz.f168.name,by decide,func168.trans (congrArg some (by kernel_rfl))⟩
 t3:=Tryz.underlying3
 a3:=Tryz.isAgg3
 z3:=Tryz.sizeOf3
 v3:=Tryz.zeroValue3
 t4:=Tryz.underlying4
 a4:=Tryz.isAgg4
 z4:=Tryz.sizeOf4
 v4:=Tryz.zeroValue4
 t22:=Tryz.underlying3
 a22:=Tryz.isAgg3
 z22:=Tryz.sizeOf3
 v22:=Tryz.zeroValue3 }
end Go.Proofs
end
section
namespace Go.Proofs
open Go.RowKit Go.Lib Go.Sort Go.Shelf
namespace KV
open Tryz

set_option maxHeartbeats 1000000 in
theorem cKn(a b c d:Int)(W:World):Calls Tp 115 #[.agg #[.int .i64 a,.int .i64 b],.agg #[.int .i64 c,.int .i64 d]] W fun e w'=>e = .returned (.int .i64 (Lib.compareInt a c))∧∃ q S1,w'=grow (W.drewN q) S1:=by
 have hcon:=fun W'=>AnyG.cmp_Compare_int Tryz.cmpInt a c W'
 change ∀ W',Calls Tp 116 _ _ _ at hcon
 generalize Lib.compareInt a c=r at hcon ⊢
 go_enter func115,Tryz.ntmps115
 go_wp2_with (go_at_call 116;refine (hcon _).mono ?_;rintro e w' ⟨rfl,rfl⟩)
 go_ret
 exact ⟨rfl,0,_,by rw [alloc_eq_grow,alloc_eq_grow,grow_grow];rfl⟩
set_option maxHeartbeats 1000000 in
theorem cKo(a b c d e f a' b' c' d' e' f':Int)(W:World):Calls Tp 118 #[.agg #[.int .i64 a,.int .i64 b,.int .i64 c,.int .i64 d,.int .i64 e,.int .i64 f],.agg #[.int .i64 a',.int .i64 b',.int .i64 c',.int .i64 d',.int .i64 e',.int .i64 f']] W fun z w'=>z = .returned (.int .i64 (Lib.compareInt a a'))∧∃ q S1,w'=grow (W.drewN q) S1:=by
 have hcon:=fun W'=>AnyG.cmp_Compare_int Tryz.cmpInt a a' W'
 change ∀ W',Calls Tp 116 _ _ _ at hcon
 generalize Lib.compareInt a a'=r at hcon ⊢
 go_enter func118,Tryz.ntmps118
 go_wp2_with (go_at_call 116;refine (hcon _).mono ?_;rintro e w' ⟨rfl,rfl⟩)
 go_ret
 exact ⟨rfl,0,_,by rw [alloc_eq_grow,alloc_eq_grow,grow_grow];rfl⟩

theorem yE{C:Cx}{M:Mem}{w:World}{x:AV}{us:List Value}(h:dD C M w [x] us):∃ u,us=[u]∧Rep C M w x u:=by
 cases h with | cons _ u _ _ h hr=>cases hr;exact ⟨u,rfl,h⟩
theorem bPg{C:Cx}{M:Mem}{w:World}{x y:AV}{us:List Value}(h:dD C M w [x,y] us):∃ u v,us=[u,v]∧Rep C M w x u∧Rep C M w y v:=by
 cases h with | cons _ u _ _ h hr=>obtain ⟨v,rfl,h2⟩:=yE hr;exact ⟨u,v,rfl,h,h2⟩
theorem cDf{C:Cx}{M:Mem}{w:World}{f:Nat}{u:Value}(h:Rep C M w (.fn f [] []) u):u = .func (.func f) #[] #[]:=by
 cases h with
 | fn _ _ _ us vs h1 h2 h3 h4 =>
  have e1:us = #[]:=Array.eq_empty_of_size_eq_zero h1;have e2:vs = #[]:=Array.eq_empty_of_size_eq_zero h2;subst e1;subst e2;rfl

theorem aIw{k:Nat}{l:Lqq}(hu:uni k l){j:Nat}(hj:j<(l.flatten.map aA).length):(l.flatten.map aA)[j] = .v ((oA k (l.toArray)[j / k]!)[j % k]!):=by
 have hL:(l.flatten).length=l.length*k:=oW hu;have Ct:j<l.length*k:=by rw [Cb,hL] at hj;exact hj
 have hk:0<k:=by
  rcases Nat.eq_zero_or_pos k with h | h
  ·subst h;simp at Ct
  ·exact h
 have hq:j / k<l.length:=Nat.div_lt_of_lt_mul (by rw [bOm];exact Ct)
 have hm:j % k<k:=aPq _ hk;have hx:l[j / k]? = some l[j / k]:=Av hq;have hxl:l[j / k].length=k:=hu _ (fL hq);have hf:l[j / k][j % k]? = some l[j / k][j % k]:=Av (by omega)
 have:=bE hu hx hf;have e:j / k*k+j % k=j:=by rw [bOm];exact Nat.div_add_mod j k
 rw [e,Av hj] at this
 rw [Option.some.inj this];have e2:(l.toArray)[j / k]! = l[j / k]:=by simp [hq]
 rw [e2];unfold oA;simp only [List.getElem!_eq_getElem?_getD,fR,nP hm,Option.map_some,Option.getD_some,Bv,hf]

theorem aQd{f g ty k:Nat}(hsz:∃ i,Tryz.prog.info? ty=some i∧i.size=k)(hk:0<k)
  (hcall:∀ (blk cap:Nat) (d:Array (List Int)) (w:World),HoldsK (oA k) k w blk 0 d→blk<w.heap.size→d.size<4611686018427387904→Calls Tp f #[.slice (some ⟨blk,0,none⟩) d.size cap,.func (.func g) #[] #[]] w fun e w' =>
   e = .returned (.tuple #[])∧∃ d' n os,PermIn 0 d.size d d'∧SortedIn (ltOf cfL) 0 d.size d'∧w'=sortWorldK (oA k) k w blk 0 n d' os)
  (hnil:∀ (p:Option Addr) (cap:Nat) (fv:Value) (w:World),Calls Tp f #[.slice p 0 cap,fv] w fun e w'=>e = .returned (.tuple #[])∧w'=w)
  (l:Lqq) (hu:uni k l) (hn:(aQ l 0).Nodup) (hl:l.length≤1000) :
  FMM Tp f [.own 0,.fn g [] []] [some (.row ty l.length (l.flatten.map aA))] (.tup []) [some (.row ty (aB l).length ((aB l).flatten.map aA))]:=fun C w us hus hM n=>by
 obtain ⟨u,v,rfl,Pq,hv⟩:=bPg hus;obtain rfl:=cDf hv;rw [eG];have hown:(C.ι 0=none∧u = .slice none 0 0∧l.length=0)∨∃ b,C.ι 0=some b∧u = .slice (some ⟨b,0,none⟩) l.length (C.κ 0):=by
  cases Pq with
  | own _ _ h0 ha hr =>
   rcases hr _ _ _ rfl with ⟨q1,q2,q3⟩ | ⟨b,q1,q2⟩
   ·exact .inl ⟨q2,q1,q3⟩
   ·exact .inr ⟨b,q2,q1⟩
 rcases hown with ⟨hι,rfl,h0⟩ | ⟨b,hι,rfl⟩
 ·obtain rfl:l=[]:=aBu h0
  refine (callsIn_wide.2 (hnil none 0 _ w)).mono ?_;rintro e w' ⟨rfl,rfl⟩;have e0:aB []=[]:=by simp [aB]
  rw [e0];exact ⟨_,rfl,C,Fr.refl _ _ _,hM,.tup [] #[] rfl (fun i h=>by simp at h)⟩
 ·rcases hM.row 0 _ _ _ rfl with ⟨Fe,_⟩ | ⟨b',arr,i,q1,q2,q3,q4,q5,q6,q7,q8,q9⟩
  ·rw [hι] at Fe;cases Fe
  ·rw [hι] at q1;cases q1
   obtain ⟨i',Cs,Cl⟩:=hsz;rw [q3] at Cs;cases Cs
   have hcell:∀ j (hj:j<(l.flatten.map aA).length),arr.getD j undef=(oA k (l.toArray)[j / k]!)[j % k]! := fun j hj=>by
    have:=q8 j hj;rw [aIw hu hj] at this
    exact cKm this
   have hlen:(l.flatten.map aA).length=l.length*k:=by rw [Cb,oW hu]
   have hle:l.length*k≤arr.size:=by rw [q4,Cl];exact Nat.mul_le_mul_right k q6
   have hH:HoldsK (oA k) k w b 0 l.toArray:=by
    unfold HoldsK Holds;intro j hj;rw [size_flatK] at hj
    have Du:j<l.length*k:=by simpa using hj
    rw [get_flatK _ _ _ _ hj,← hcell j (by rw [hlen];exact Du)]
    have hja:j<arr.size:=by omega
    rw [gU];refine ⟨?_,?_⟩
    ·unfold World.cell?
     simp only [q2];rw [B4,rL hja];simp
    ·unfold World.frozen?
     simp [q2]
   have hb:b<w.heap.size:=lt_of_block q2;have hc:=hcall b (C.κ 0) l.toArray w hH hb (by simp;omega)
   rw [List.size_toArray] at hc
   refine (callsIn_wide.2 hc).mono ?_;rintro e w' ⟨rfl,d',m,os,hp,hs,rfl⟩;have hd:d'.size=l.length:=by have:=hp.1;simpa using this
   have hperm:d'.toList.Perm l:=by
    have:=hp.2.2;have e1:d'.extract 0 l.length=d':=by rw [← hd];simp
    have e2:l.toArray.extract 0 l.length=l.toArray:=by simp
    rw [e1,e2] at this
    simpa using this
   have hsorted:d'.toList.Pairwise fun a b=>a.getD 0 0≤b.getD 0 0:=by
    rw [List.pairwise_iff_getElem];intro i j hi hj hij;have Du:j<d'.size:=by simpa using hj
    have:=hs i j (Nat.zero_le _) hij (by omega)
    rw [ltL] at this
    have h3:=of_decide_eq_false this;rw [getElem!_pos d' i (by omega),getElem!_pos d' j Du] at h3
    simpa using Int.not_lt.1 h3
   have R8:d'=(aB l).toArray:=by
    have:=aUw hn hperm hsorted;rw [← this]
   subst R8;have hsu:=nI hu;have hsl:=eG l;have hw:∃ Fo,(sortWorldK (oA k) k w b 0 m (aB l).toArray os).heap[b]? = some (.cells Fo ty (0,0))∧Fo.size=arr.size∧∀ j,j<l.length*k→Fo.getD j undef=(oA k (aB l).toArray[j / k]!)[j % k]! := by
    refine ⟨putCells id 0 (flatK (oA k) k (aB l).toArray) arr,?_,by simp [putCells],fun j hj => ?_⟩
    ·unfold sortWorldK grow putRowK putRow mapBlock
     have hlt:b<(w.heap.modify b (onCells (putCells id 0 (flatK (oA k) k (aB l).toArray)))).size:=by simpa using hb
     show (w.heap.modify b (onCells (putCells id 0 (flatK (oA k) k (aB l).toArray)))++os)[b]? = _;rw [Array.getElem?_append_left hlt,Array.getElem?_modify];simp [q2,onCells]
    ·have hja:j<arr.size:=by omega
     rw [B4];unfold putCells;rw [Array.getElem?_mapIdx,rL hja];have hsz:j<(flatK (oA k) k (aB l).toArray).size:=by rw [size_flatK];simpa [hsl] using hj
     simp only [Option.map_some,Option.getD_some,Nat.zero_le,true_and,gU,hsz,if_true,Nat.sub_zero,id];exact get_flatK _ _ _ _ (by simpa [hsl] using hj)
   obtain ⟨Fo,w1,w2,w3⟩:=hw;have Pr:((aB l).flatten.map aA).length=l.length*k:=by rw [Cb,oW hsu,hsl]
   have hall:∀ j (h:j<((aB l).flatten.map aA).length),Fo.getD j undef=(oA k (aB l).toArray[j / k]!)[j % k]! := fun j h=>w3 j (by omega)
   obtain ⟨f1,m1⟩:=aUv (Bp:=(aB l).flatten.map aA) (w':=sortWorldK (oA k) k w b 0 m (aB l).toArray os) hM hι q2 rfl rfl rfl
    (by unfold sortWorldK;rw [size_grow];show w.heap.size≤(w.heap.modify b _).size+_;simp)
    (fun b' h1 h2=>by
     show (w.heap.modify b (onCells (putCells id 0 (flatK (oA k) k (aB l).toArray)))++os)[b']? = _;rw [Array.getElem?_append_left (by simpa using h1),Array.getElem?_modify,if_neg (fun h=>h2 h.symm)])
    w1 w2 (by rw [Pr,hlen]) (fun j h=>by rw [aIw hsu h,hall j h];exact .v _)
    (fun j h=>by
     rw [hall j h];have:=aEw k ((aB l).toArray[j / k]!) ((oA k (aB l).toArray[j / k]!)[j % k]!) (by
      have hm:j % k<(oA k (aB l).toArray[j / k]!).length:=by rw [aEv];exact aPq _ hk
      rw [List.getElem!_eq_getElem?_getD,Av hm];exact fL hm)
     exact this)
   exact ⟨_,rfl,C,f1,m1,.tup [] #[] rfl (fun i h=>by simp at h)⟩
end KV
end Go.Proofs
end
section
namespace Go.Proofs
open Go.RowKit Go.Lib Go.Sort Go.Shelf
namespace KV
open Tryz

theorem M7:(Tryz.prog.info? 31).map (fun i=>i.size)=some 2:=by kernel_rfl
theorem M8:(Tryz.prog.info? 44).map (fun i=>i.size)=some 6:=by kernel_rfl
theorem uW{t k:Nat}(h:(Tryz.prog.info? t).map (fun i=>i.size)=some k):∃ i,Tryz.prog.info? t=some i∧i.size=k:=by
 cases h2:Tryz.prog.info? t with
 | none=>rw [h2] at h;cases h
 | some i=>rw [h2] at h;exact ⟨i,rfl,by simpa using h⟩
theorem bHh(l:Lqq)(hu:uni 2 l)(hn:(aQ l 0).Nodup)(hl:l.length≤1000):FMM Tp 114 [.own 0,.fn 115 [] []] [some (.row 31 l.length (l.flatten.map aA))] (.tup []) [some (.row 31 (aB l).length ((aB l).flatten.map aA))] :=
 aQd (k:=2) (uW M7) (by omega)
  (fun blk cap d w hH hb hd=>AnyQ.slices_SortFunc Tryz.sortSk 2 Tryz.isAgg31 Tryz.sizeOf31 (oA 2) (aEv 2) (aEw 2) cfL cKp 115 #[] blk 0 cap d w (enters_of func115 (by kernel_rfl) rfl)
   (fun m os dk _ x y=>cKn (x.getD 0 0) (x.getD 1 0) (y.getD 0 0) (y.getD 1 0) _) hH hb hd)
  (fun p cap fv w=>AnyF.slices_SortFunc_none Tryz.sortSk p cap fv w) l hu hn hl
theorem bHi(l:Lqq)(hu:uni 6 l)(hn:(aQ l 0).Nodup)(hl:l.length≤1000):FMM Tp 117 [.own 0,.fn 118 [] []] [some (.row 44 l.length (l.flatten.map aA))] (.tup []) [some (.row 44 (aB l).length ((aB l).flatten.map aA))] :=
 aQd (k:=6) (uW M8) (by omega)
  (fun blk cap d w hH hb hd=>AnyQ.slices_SortFunc Tryz.sortDc 6 Tryz.isAgg44 Tryz.sizeOf44 (oA 6) (aEv 6) (aEw 6) cfL cKp 118 #[] blk 0 cap d w (enters_of func118 (by kernel_rfl) rfl)
   (fun m os dk _ x y=>cKo (x.getD 0 0) (x.getD 1 0) (x.getD 2 0) (x.getD 3 0) (x.getD 4 0) (x.getD 5 0) (y.getD 0 0) (y.getD 1 0) (y.getD 2 0) (y.getD 3 0) (y.getD 4 0) (y.getD 5 0) _) hH hb hd)
  (fun p cap fv w=>AnyF.slices_SortFunc_none Tryz.sortDc p cap fv w) l hu hn hl
end KV
end Go.Proofs
end
section
namespace Go.Proofs
open Go.RowKit Go.Lib Go.Shelf
namespace KV
open Tryz

theorem bHg{f ty k:Nat}(hsz:∃ i,Tryz.prog.info? ty=some i∧i.size=k)
  (h:∀ (p:Option Addr) (c:Nat) (w:World),Calls Tp f #[.slice p 0 c] w fun e w'=>∃ v',e = .returned v'∧w'.ownsRow w.heap.size ty k v' 0 []∧Below w.heap.size w w') {base:Nat} :
  FV Tp f [.p (.sl 0 [])] base (.own base) [(base,.row ty 0 [])]:=by
 refine ⟨.own 0,[some (.row ty 0 [])],fun C w us hus hM n => ?_,by simp [bBf,bNb,gC,bY,bNc,bBe]⟩
 obtain ⟨u,rfl,hu⟩:=yE hus;cases hu with
 | p _ _ hu =>
  have Wh:∃ p c,u = .slice p 0 c:=by cases hu with | sl n cs p cap us h1 h2 h3 h4 h5=>exact ⟨p,cap,rfl⟩
  obtain ⟨p,c,rfl⟩:=Wh;refine (callsIn_wide.2 (h p c w)).mono ?_;rintro e w' ⟨v',rfl,h1,h2⟩;have Dq:∀ (id:Nat) (o:AO),([some (.row ty 0 [])]:Mem)[id]? = some (some o)→id=0∧o = .row ty 0 []:=fun id o h=>by
   cases id with
   | zero=>simp at h;exact ⟨rfl,h.symm⟩
   | succ i=>simp at h
  have hno:∀ (id:Nat) (o:AO),¬ (([]:Mem)[id]? = some (some o)):=fun id o h=>by simp at h
  have hc:(v' = .slice none 0 0)∨∃ g cap cur,v' = .slice (some ⟨g,0,none⟩) 0 cap∧w.heap.size≤g∧w'.heap[g]? = some (.cells cur ty (0,0))∧cap≤maxLen∧cur.size=cap*k:=by
   rcases h1.2 with ⟨he,h0⟩ | ⟨g,cp,cur,he,hg,hh,r1,r2,r3,r4⟩
   ·exact .inl he
   ·exact .inr ⟨g,cp,cur,he,hg,hh,r2,r3⟩
  have new:∀ b,v'.ownBlock=some b→w.heap.size≤b∧b<w'.heap.size:=fun b hb=>by
   rcases hc with rfl | ⟨g,cap,cur,rfl,hg,hh,_⟩
   ·cases hb
   ·cases hb;exact ⟨hg,lt_of_block hh⟩
  refine ⟨_,rfl,{ ι:=fun _=>v'.ownBlock,κ:=fun _=>(match v' with | .slice _ _ c=>c | _=>0),F:=C.F },⟨h2.os,h2.tape,h2.output,h2.size,fun b hb _=>h2.block b hb,fun id o h=>absurd h (hno id o),fun id o h=>absurd h (hno id o),fun id o h=>absurd h (hno id o),fun id o b hm hl hb => .inl (new b hb).1,fun _ h=>h,fun _ h => .inl h⟩,
   ⟨fun id ty n cs hm => ?_,fun id ty cs hm => ?_,fun id es cl hm => ?_,fun id Gk o o' b q1 _ q2 _ _ _ => ?_,fun id o b hm hl hb hf => ?_,fun b hb=>fY (hM.Fs b hb) h2.size,fun id o b hm hl hb=>(new b hb).2⟩,?_⟩
  ·obtain ⟨rfl,he⟩:=Dq _ _ hm
   cases he
   rcases hc with rfl | ⟨g,cap,cur,rfl,_,hh,r2,r3⟩
   ·exact .inl ⟨rfl,rfl,rfl⟩
   ·obtain ⟨i,hi,hs⟩:=hsz
    exact .inr ⟨g,cur,i,rfl,hh,hi,by rw [hs];exact r3,by simp,Nat.zero_le _,r2,fun j h=>by simp at h,fun j h=>by simp at h⟩
  ·obtain ⟨_,he⟩:=Dq _ _ hm;cases he
  ·obtain ⟨_,he⟩:=Dq _ _ hm;cases he
  ·obtain ⟨rfl,_⟩:=Dq _ _ q1
   obtain ⟨rfl,_⟩:=Dq _ _ q2;rfl
  ·have:=hM.Fs _ hf
   have:=(new b hb).1;omega
  ·have h0:v'.oneCell'=true:=by rcases hc with rfl | ⟨g,cap,cur,rfl,_⟩ <;> rfl
   refine .own 0 _ h0 ⟨_,rfl⟩ fun Dh n cs hm => ?_
   obtain ⟨_,he⟩:=Dq _ _ hm;cases he
   rcases hc with rfl | ⟨g,cap,cur,rfl,_⟩
   ·exact .inl ⟨rfl,rfl,rfl⟩
   ·exact .inr ⟨g,rfl,rfl⟩
end KV
end Go.Proofs
end
