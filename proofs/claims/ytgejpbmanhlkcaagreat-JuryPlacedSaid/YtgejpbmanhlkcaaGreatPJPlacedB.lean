/- Parts of the proof of JPlaced: laws of walks, contracts of functions, plain models. No condition. -/
import Derived.Test.YtgejpbmanhlkcaaGreatProg
import Derived.ProofKit
import Derived.Carry
import Derived.Deep.Slices
import Derived.RangeFuncLeaves
import Derived.OwnWalkIn
import Derived.TacticsInMore
import Derived.RangeFuncNested
import Derived.Test.YtgejpbmanhlkcaaGreatPJPlacedA
set_option linter.unusedVariables false
set_option linter.unusedSimpArgs false
set_option maxRecDepth 100000
namespace Go.Proofs
namespace KV
section
variable {P:Program} {T:TT} {E:Env} {C C0:Cx} {M M0:Mem} {w w0:World}

def cost(o:Oper):Nat:=match o.op with
 | .alloc _ | .box _ _ | .buildSlice _ _ _ | .makeSlice _ _ _=>1
 | .call c=>match c.callee with
  | .builtin _=>1
  | _=>8
 | _=>0
def ido(ops:List Oper)(base k:Nat):Nat:=base+((ops.take k).map cost).sum

abbrev vT:=AV × Upd × Option (List Nat)
def aBv(q:vT):Ft:=⟨q.2.2,q.2.1.map (·.1)⟩

def aVh(o:Oper)(vs:List AV)(m:Mem)(id:Nat):Ask (Option (List Nat)):=fun s=>some (fpQ o vs m id s,s)
theorem bGl{o:Oper}{vs:List AV}{m:Mem}{id:Nat}{s s':AS}{b:Option (List Nat)}(h:aVh o vs m id s=some (b,s')):b=fpQ o vs m id s∧s'=s:=by
 unfold aVh at h
 cases h;exact ⟨rfl,rfl⟩
theorem aPt{o:Oper}{vs:List AV}{m:Mem}{id:Nat}:cD (aVh o vs m id):=fun s r s' e p hp=>by obtain ⟨_,rfl⟩:=bGl e;exact hp
def aPu(P:Program)(T:TT)(E:Env)(ops:List Oper):List Oper→Nat→St→Ask (List Ft × St)
 | [],_,st=>pure ([],st)
 | o::r,id,st=>do
  let go ← jD ops o st
  match go with
  | true=>do
   let vs ← lift (evs st o.op.operands.toList)
   let fp ← aVh o vs st.m id
   let q ← nP P T E o vs st.m id
   let y ← aPu P T E ops r (id+cost o) ⟨put st.t o.dst q.1,upds st.m q.2⟩
   pure (⟨fp,q.2.map (·.1)⟩::y.1,y.2)
  | false=>do
   let y ← aPu P T E ops r (id+cost o) ⟨put st.t o.dst (.tup []),st.m⟩
   pure (⟨some [],[]⟩::y.1,y.2)

def rD(ops:Array Oper):Nat→Nat→Nat→Bool
 | 0,_,_=>false
 | n+1,k,j=>match ops[j]? with
  | some oj=>(oj.after.any fun e=>Region.binds .any e && e.on == k) || oj.after.any fun e=>Region.binds .any e && rD ops n k e.on
  | none=>false
def aIm(ops:Array Oper)(k:Nat)(f:Ft):Nat→List Ft→Bool
 | _,[]=>true
 | j,g::r=>(aPx f g || rD ops 5 k j) && aIm ops k f (j+1) r
def aIn(ops:Array Oper):Nat→List Ft→Bool
 | _,[]=>true
 | k,f::r=>aIm ops k f (k+1) r && aIn ops (k+1) r

def next(o:Oper)(q:vT)(st:St):St:=⟨put st.t o.dst q.1,upds st.m q.2.1⟩

inductive aLu (P:Program) (T:TT) (E:Env) (ops:List Oper):Nat→List Oper→St→List vT→St→Prop
 | nil (id:Nat) (st:St):aLu P T E ops id [] st [] st
 | cons (id:Nat) (o:Oper) (l:List Oper) (st:St) (q:vT) (os:List vT) (fin:St) (h:rF P T E ops o id st q.1 q.2.1 q.2.2) (hr:aLu P T E ops (id+cost o) l (next o q st) os fin):aLu P T E ops id (o::l) st (q::os) fin

theorem oW{ops:List Oper}:∀ {l:List Oper} {id:Nat} {st:St},cD (aPu P T E ops l id st)
 | [],_,_=>aM _
 | _::_,_,_=>by
  unfold aPu;refine bD aCk fun _ => ?_
  split
  ·exact aK fun _=>bD aPt fun _=>bD pM fun _=>bD oW fun _=>aM _
  ·exact bD oW fun _=>aM _

theorem rE{ops:List Oper}:∀ (l:List Oper) (id:Nat) {st fin:St} {fts:List Ft} {s s':AS},aPu P T E ops l id st s=some ((fts,fin),s')→bB s'→∃ os:List vT,fts=os.map aBv∧aLu P T E ops id l st os fin
 | [],id,st,fin,fts,s,s',h,g=>by
  obtain ⟨he,rfl⟩:=aJ h;cases he;exact ⟨[],rfl,.nil _ _⟩
 | o::l,id,st,fin,fts,s,s',h,g=>by
  unfold aPu at h
  obtain ⟨go,s1,h1,k1⟩:=aD h;cases go with
  | true =>
   obtain ⟨vs,s2,h2,k2⟩:=aD k1;obtain ⟨e2,rfl⟩:=aG h2;obtain ⟨au,sa,ha,ka⟩:=aD k2;obtain ⟨rfl,rfl⟩:=bGl ha;obtain ⟨q,s3,h3,k3⟩:=aD ka;obtain ⟨y,s4,h4,k4⟩:=aD k3;obtain ⟨he,rfl⟩:=aJ k4;cases he;obtain ⟨os,e5,hl⟩:=rE l _ (fts:=y.1) (fin:=y.2) h4 g;have g3:=oW.good h4 g;exact ⟨(q.1,q.2,fpQ o vs st.m id sa)::os,by rw [gZ,e5];rfl,.cons _ _ _ _ (q.1,q.2,fpQ o vs st.m id sa) _ _ ⟨s,sa,.inr ⟨h1,vs,s3,e2,h3,g3,rfl⟩⟩ hl⟩
  | false =>
   obtain ⟨y,s4,h4,k4⟩:=aD k1;obtain ⟨he,rfl⟩:=aJ k4;cases he;obtain ⟨os,e5,hl⟩:=rE l _ (fts:=y.1) (fin:=y.2) h4 g;exact ⟨(.tup [],[],some [])::os,by rw [gZ,e5];rfl,.cons _ _ _ _ (.tup [],[],some []) _ _ ⟨s,s1,.inl ⟨h1,oW.good h4 g,rfl,rfl,rfl⟩⟩ hl⟩

def oX(P:Program)(T:TT)(E:Env)(ops:List Oper)(base:Nat)(out:Nat→vT)(fin:St):Nat→Array Bool→St→Prop
 | 0,listed,st=>Region.ready .any ops.toArray listed=[]∧st=fin
 | fuel+1,listed,st=>(Region.ready .any ops.toArray listed=[]→st=fin) ∧
  ∀ j∈Region.ready .any ops.toArray listed,∃ o,ops[j]? = some o∧rF P T E ops o (ido ops base j) st (out j).1 (out j).2.1 (out j).2.2∧oX P T E ops base out fin fuel (listed.setIfInBounds j true) (next o (out j) st)

def aBw(ops:List Oper)(listed:Array Bool):Prop:=∀ j oj,ops[j]? = some oj→listed.getD j false=true→∀ e∈oj.after,Region.binds .any e=true→listed.getD e.on false=true

theorem aGk{ops:List Oper}{listed:Array Bool}{i:Nat}(hc:aBw ops listed)(hi:listed.getD i false=false):∀ (n j:Nat),(∀ oj,ops[j]? = some oj→∀ e∈oj.after,Region.binds .any e=true→listed.getD e.on false=true)→rD ops.toArray n i j=false
 | 0,_,_=>rfl
 | n+1,j,h=>by
  unfold rD;cases hj:ops[j]? with
  | none=>simp [hj]
  | some oj =>
   simp only [List.getElem?_toArray,hj,Bool.or_eq_false_iff];refine ⟨?_,?_⟩
   ·rw [Bool.eq_false_iff]
    intro hw;obtain ⟨e,he,hb⟩:=Array.any_eq_true'.1 hw;simp only [kQ7,beq_iff_eq] at hb
    have:=h oj hj e he hb.1;rw [hb.2,hi] at this
    cases this
   ·rw [Bool.eq_false_iff]
    intro hw;obtain ⟨e,he,hb⟩:=Array.any_eq_true'.1 hw;simp only [kQ7] at hb
    have h1:=h oj hj e he hb.1;rw [aGk hc hi n e.on (fun o ho e' he' hb'=>hc e.on o ho h1 e' he' hb')] at hb
    cases hb.2

theorem aBx{ops:List Oper}{listed:Array Bool}{j:Nat}(hc:aBw ops listed)(hj:∀ oj,ops[j]? = some oj→∀ e∈oj.after,Region.binds .any e=true→listed.getD e.on false=true):aBw ops (listed.setIfInBounds j true):=fun k ok hk hl e he hb=>by
 refine getD_set_true ?_
 by_cases h:j=k
 ·subst h;exact hj ok hk e he hb
 ·rw [getD_set_ne false h] at hl
  exact hc k ok hk hl e he hb

theorem oX.first{ops:List Oper}{base:Nat}{out:Nat→vT}{fin:St}{i:Nat}{oi:Oper}(hi:ops[i]? = some oi):∀ (fuel:Nat) (listed:Array Bool) (st:St),
  (∀ j oj,ops[j]? = some oj→j≠i→listed.getD j true=false→(∀ e∈oj.after,Region.binds .any e=true→e.on≠i)→oi.apart ops.toArray oj=true∧(aPx (aBv (out i)) (aBv (out j))=true∨rD ops.toArray 5 i j=true))→aBw ops listed →
  i∈Region.ready .any ops.toArray listed→rF P T E ops oi (ido ops base i) st (out i).1 (out i).2.1 (out i).2.2→oX P T E ops base out fin fuel (listed.setIfInBounds i true) (next oi (out i) st)→oX P T E ops base out fin (fuel+1) listed st:=by
 intro fuel
 induction fuel with
 | zero =>
  intro listed st _ _ hr hs H;refine ⟨fun h=>(by rw [h] at hr;cases hr),fun j hj => ?_⟩
  by_cases hji:j=i
  ·subst hji;exact ⟨oi,hi,hs,H⟩
  ·have:=ready_mono hj hji
   rw [H.1] at this
   cases this
 | succ fuel ih =>
  intro listed st hfree hcl hr hs H;refine ⟨fun h=>(by rw [h] at hr;cases hr),fun j hj => ?_⟩
  by_cases hji:j=i
  ·subst hji;exact ⟨oi,hi,hs,H⟩
  ·obtain ⟨oj,hoj,hsj,hH⟩:=H.2 j (ready_mono hj hji)
   obtain ⟨hjun,oj',hoj',hall⟩:=mem_ready.1 hj;have:oj'=oj:=by
    rw [List.getElem?_toArray,hoj] at hoj'
    cases hoj';rfl
   subst this;have hnot:∀ e∈oj'.after,Region.binds .any e=true→e.on≠i:=fun e he hb heq=>by
    have h1:=hall e he hb;have h0:=(mem_ready.1 hr).1;rw [heq] at h1
    rcases Nat.lt_or_ge i listed.size with h' | h'
    ·simp [h'] at h0 h1;rw [h0] at h1;cases h1
    ·simp [Array.getElem?_eq_none h'] at h1
   have hjun':listed.getD j true=false:=by
    rcases Nat.lt_or_ge j listed.size with h' | h'
    ·simpa [h'] using hjun
    ·exact hjun
   obtain ⟨hap,hok⟩:=hfree j oj' hoj hji hjun' hnot;have hjall:∀ oj,ops[j]? = some oj→∀ e∈oj.after,Region.binds .any e=true→listed.getD e.on false=true:=fun o ho e he hb=>by
    rw [hoj] at ho;cases ho;exact hall e he hb
   have hiun:listed.getD i false=false:=by
    have h0:=(mem_ready.1 hr).1
    rcases Nat.lt_or_ge i listed.size with h' | h'
    ·simp [h'] at h0 ⊢;exact h0
    ·simp [Nat.not_lt.2 h']
   replace hok:=hok.resolve_right (by rw [aGk hcl hiun 5 j hjall];simp)
   obtain ⟨m1,m2,m3,m4⟩:=rF.move hap hok hs hsj;have hnx:next oj' (out j) (next oi (out i) st)=next oi (out i) (next oj' (out j) st):=by
    unfold next;simp only [m3,m4]
   refine ⟨oj',hoj,m1,ih _ _ (fun k ok hk hki hun hno=>hfree k ok hk hki ?_ hno) (aBx hcl hjall) (ready_mono hr (Ne.symm hji)) m2 ?_⟩
   ·by_cases hjk:j=k
    ·subst hjk;exact hjun'
    ·rw [getD_set_ne true hjk] at hun;exact hun
   ·rw [hnx,Array.setIfInBounds_comm _ _ (Ne.symm hji)] at hH
    exact hH

theorem bGm{ops:List Oper}{base k:Nat}{o:Oper}(h:ops[k]? = some o):ido ops base (k+1)=ido ops base k+cost o:=by
 unfold ido;rw [List.take_add_one,h];simp [Nat.add_assoc]

theorem oX.lex{ops:List Oper}{base:Nat}{out:Nat→vT}{fin:St}:∀ (l:List Oper) (k:Nat) (listed:Array Bool) (st:St) (os:List vT),(∀ j,l[j]? = ops[k+j]?)→(∀ j q,os[j]? = some q→out (k+j)=q)→(∀ j,j<k→listed.getD j true=true)→aBw ops listed →
  (∀ i j,k≤i→i<j→(ops[j]?).isSome→aPx (aBv (out i)) (aBv (out j))=true∨rD ops.toArray 5 i j=true) →
  Region.lexFrom .any ops.toArray l.length k listed=true→aLu P T E ops (ido ops base k) l st os fin→oX P T E ops base out fin l.length listed st
 | [],k,listed,st,os,_,_,_,_,_,hB,h=>by
  cases h;exact ⟨by simpa [Region.lexFrom] using hB,rfl⟩
 | o::l,k,listed,st,os,hl,ho,hk,hcl,hA,hB,h=>by
  cases h with
  | cons _ _ _ _ q os _ hs hr =>
   have h0:ops[k]? = some o:=by simpa using (hl 0).symm
   have hq:out k=q:=ho 0 q rfl;simp only [qZ,Region.lexFrom,kQ7] at hB
   obtain ⟨⟨hrd,hf⟩,hB'⟩:=hB;have h0':ops.toArray[k]? = some o:=by rw [List.getElem?_toArray];exact h0
   have hrd':k∈Region.ready .any ops.toArray listed:=by simpa using hrd
   have hkall:∀ oj,ops[k]? = some oj→∀ e∈oj.after,Region.binds .any e=true→listed.getD e.on false=true:=fun o' ho' e he hb=>by
    obtain ⟨_,o2,ho2,hall⟩:=mem_ready.1 hrd';rw [h0'] at ho2;cases ho2
    rw [h0] at ho';cases ho'
    exact hall e he hb
   refine oX.first h0 l.length listed st (fun j oj hj hjk hun hno => ?_) hcl hrd' (by rw [hq];exact hs) ?_
   ·refine ⟨Region.free_spec h0' hf j oj (by rw [List.getElem?_toArray];exact hj) hjk hun hno,?_⟩
    have hlt:k<j:=by
     rcases Nat.lt_trichotomy k j with h1 | h1 | h1
     ·exact h1
     ·exact absurd h1.symm hjk
     ·rw [hk j h1] at hun;cases hun
    exact hA k j (dM _) hlt (by rw [hj];rfl)
   ·rw [hq]
    refine oX.lex l (k+1) _ _ os (fun j=>by have:=hl (j+1);simpa [Nat.add_assoc,Nat.add_comm 1 j] using this) (fun j q' hj=>by have:=ho (j+1) q' (by simpa using hj);rw [← this];congr 1;omega) (fun j hj => ?_) (aBx hcl hkall)
     (fun i j hi=>hA i j (by omega)) hB' (by rw [bGm h0];exact hr)
    by_cases e:k=j
    ·subst e
     rcases Nat.lt_or_ge k listed.size with h' | h'
     ·simp [h']
     ·simp [Nat.not_lt.2 h']
    ·rw [getD_set_ne true e];exact hk j (by omega)

theorem zF{ops:Array Oper}{k:Nat}{f:Ft}:∀ (l:List Ft) (j:Nat),aIm ops k f j l=true→∀ i g,l[i]? = some g→aPx f g=true∨rD ops 5 k (j+i)=true
 | [],_,_,i,g,h=>by simp at h
 | x::l,j,h,i,g,hi=>by
  unfold aIm at h
  rw [kQ7,xV] at h
  cases i with
  | zero=>simp at hi;subst hi;exact h.1
  | succ i =>
   have:=zF l (j+1) h.2 i g (by simpa using hi)
   rwa [show j+1+i=j+(i+1) by omega] at this
theorem nK{ops:Array Oper}:∀ (l:List Ft) (k:Nat),aIn ops k l=true→∀ i j f g,i<j→l[i]? = some f→l[j]? = some g→aPx f g=true∨rD ops 5 (k+i) (k+j)=true
 | [],_,_,i,j,f,g,_,h,_=>by simp at h
 | x::l,k,h,i,j,f,g,hij,hi,hj=>by
  unfold aIn at h
  rw [kQ7] at h
  cases j with
  | zero=>omega
  | succ j =>
   cases i with
   | zero =>
    simp at hi;subst hi
    have:=zF l (k+1) h.1 j g (by simpa using hj)
    rwa [show k+1+j=k+(j+1) by omega] at this
   | succ i =>
    have:=nK l (k+1) h.2 i j f g (by omega) (by simpa using hi) (by simpa using hj)
    rwa [show k+1+i=k+(i+1) by omega,show k+1+j=k+(j+1) by omega] at this

theorem oX.sound(hT:∀ t i,T t=some i→cJ P t=some i)(hE:mE P E){ops:List Oper}{base:Nat}{out:Nat→vT}{fin:St}{ro:Option Nat}{n:Nat}{Q:Exit→Act→World→Prop}(hQ:∀ a' w',Sim P C0 M0 w0 fin a' w'→Q .normal a' w') :
  ∀ (fuel:Nat) (listed:Array Bool) (st:St) (a:Act) (w:World),oX P T E ops base out fin fuel listed st→Sim P C0 M0 w0 st a w→wpAnyIn (Fen ro) n P .any ops.toArray Q fuel listed a w
 | 0,listed,st,a,w,h,hs=>⟨h.1,hQ _ _ (h.2 ▸ hs)⟩
 | fuel+1,listed,st,a,w,h,hs=>by
  refine ⟨fun h0=>hQ _ _ (h.1 h0 ▸ hs),fun j hj => ?_⟩
  obtain ⟨o,ho,hst,hr⟩:=h.2 j hj;have:=hst.op hT hE C0 M0 w0 a w hs ro n (wpAnyIn (Fen ro) n P .any ops.toArray Q fuel (listed.setIfInBounds j true)) Q (fun a' w' hs'=>oX.sound hT hE hQ fuel _ _ _ _ hr hs')
  unfold wpOpIn;simp only [List.getElem?_toArray,ho];exact this
end
section
variable {P:Program} {T:TT} {E:Env} {C C0:Cx} {M M0:Mem} {w w0:World}

mutual
def fzA(id n:Nat)(cs:List PV):AV→AV
 | .own i=>match Nat.beq i id with
  | true => .p (.sl n cs)
  | false => .own i
 | .arr i off k=>match Nat.beq i id with
  | true => .p (.sl k ((cs.drop off).take (k*(cs.length / n))))
  | false => .arr i off k
 | .ptr i off=>match Nat.beq i id with
  | true => .rp cs off
  | false => .ptr i off
 | .agg l=>kA (fzL id n cs l)
 | .tup l => .tup (fzL id n cs l)
 | .fn f a b => .fn f (fzL id n cs a) (fzL id n cs b)
 | .p x => .p x
 | .rp cs o => .rp cs o
 | .yld l => .yld l
 | .kb b => .kb b
 | .mp i => .mp i
 | .pa i q => .pa i q
 | .any => .any
def fzL(id n:Nat)(cs:List PV):List AV→List AV
 | []=>[]
 | x::r=>fzA id n cs x::fzL id n cs r
end

theorem vR(id n:Nat)(cs:List PV):∀ l:List AV,(fzL id n cs l).length=l.length
 | []=>by simp [fzL]
 | x::r=>by simp [fzL,vR id n cs r]

section
variable {id ty n:Nat} {cs:List PV} (hM:aR P C M w) (ho:M[id]? = some (some (.row ty n cs)))
include hM ho
mutual
theorem aGj:∀ {x:AV} {u:Value},Rep C M w x u→Rep (C.close id true) (aZ M id (some .dead)) w (fzA id n cs x) u
 | .own i,u,h=>by
  have hL:=hM.le (dE true ho rfl);simp only [fzA]
  split
  ·rename_i hb
   have:=Nat.eq_of_beq_eq_true hb;subst this;exact .p _ _ (uW hM ho h)
  ·exact h.mono hL
 | .arr i off k,u,h=>by
  have hL:=hM.le (dE true ho rfl);simp only [fzA]
  split
  ·rename_i hb
   have:=Nat.eq_of_beq_eq_true hb;subst this;cases h with
   | arr _ _ _ u h0 ha hrow =>
    rcases hrow _ ho rfl with ⟨rfl,p,cap,rfl,hc⟩ | ⟨b,cap,rfl,hn,hc,hb⟩
    ·rw [Nat.zero_mul,List.take_zero]
     exact .p _ _ (.sl 0 [] p cap (fun _=>undef) (Nat.zero_le _) hc (fun i h=>by simp at h) (fun i h=>by simp at h) (fun i h=>by simp at h))
    ·rcases hM.row _ _ _ _ ho with ⟨hn',_⟩ | ⟨b',arr,inf,hb',q1,q2,q3,q4,q5,q6,q7,q8⟩
     ·rw [hb] at hn';cases hn'
     ·rw [hb] at hb';cases hb'
      have hle:cs.length≤arr.size:=by rw [q3,q4];exact Nat.mul_le_mul_right _ q5
      have hlt:∀ i,i<((cs.drop off).take (k*(cs.length / n))).length→off+i<cs.length:=fun i hi=>by simp at hi;omega
      refine .p _ _ (.sl k _ _ cap (fun j=>arr.getD (off+j) undef) hn hc (fun j hj=>⟨b,off,rfl,.inr ⟨rfl,hb⟩,bX q1 (by have:=hlt j hj;omega)⟩) (fun j hj => ?_) (fun j hj=>q8 _ (hlt j hj)))
      simp only [List.getElem_take,List.getElem_drop];exact (q7 _ (hlt j hj)).mono (fun _ h => .inl h) (fun _ _=>rfl)
  ·exact h.mono hL
 | .ptr i off,u,h=>by
  have hL:=hM.le (dE true ho rfl);simp only [fzA]
  split
  ·rename_i hb
   have:=Nat.eq_of_beq_eq_true hb;subst this;obtain ⟨b,rfl,hb⟩:=gQ h (jE ho rfl)
   rcases hM.row _ _ _ _ ho with ⟨hn,_⟩ | ⟨b',arr,inf,hb',q1,q2,q3,q4,q5,q6,q7,q8⟩
   ·rw [hb] at hn;cases hn
   ·rw [hb] at hb';cases hb'
    have hle:cs.length≤arr.size:=by rw [q3,q4];exact Nat.mul_le_mul_right _ q5
    have:=Rep.rp (C:=C.close i true) (M:=aZ M i (some .dead)) (w:=w) cs off b 0 (fun j=>arr.getD j undef) (fun i hi=>⟨.inr ⟨rfl,hb⟩,by rw [gN];exact bX q1 (by omega)⟩) (fun i hi=>(q7 i hi).mono (fun _ h => .inl h) (fun _ _=>rfl)) q8
    rwa [gN] at this
  ·exact h.mono hL
 | .agg l,u,h=>by
  cases h with
  | agg _ vs h0 h1 h2 =>
   simp only [fzA];obtain ⟨q1,q2⟩:=kQ (us:=fun i=>vs.getD i undef) h2
   exact lG (fun i hi=>h0 i (by omega)) (by omega) q2
 | .tup l,u,h=>by
  cases h with
  | tup _ vs h1 h2 =>
   simp only [fzA];obtain ⟨q1,q2⟩:=kQ (us:=fun i=>vs.getD i undef) h2
   exact .tup _ _ (by omega) q2
 | .fn f a b,u,h=>by
  cases h with
  | fn _ _ _ us vs h1 h2 h3 h4 =>
   simp only [fzA];obtain ⟨q1,q2⟩:=kQ (us:=fun i=>us.getD i undef) h3
   obtain ⟨r1,r2⟩:=kQ (us:=fun i=>vs.getD i undef) h4
   exact .fn f _ _ us vs (by omega) (by omega) q2 r2
 | .p x,u,h=>by simp only [fzA];exact h.mono (hM.le (dE true ho rfl))
 | .rp cs o,u,h=>by simp only [fzA];exact h.mono (hM.le (dE true ho rfl))
 | .yld l,u,h=>by simp only [fzA];exact h.mono (hM.le (dE true ho rfl))
 | .kb b,u,h=>by simp only [fzA];exact h.mono (hM.le (dE true ho rfl))
 | .mp i,u,h=>by simp only [fzA];exact h.mono (hM.le (dE true ho rfl))
 | .pa i q,u,h=>by simp only [fzA];exact h.mono (hM.le (dE true ho rfl))
 | .any,u,h=>by simp only [fzA];exact .any _
theorem kQ:∀ {l:List AV} {us:Nat→Value},(∀ i (h:i<l.length),Rep C M w l[i] (us i))→(fzL id n cs l).length=l.length∧∀ i (h:i<(fzL id n cs l).length),Rep (C.close id true) (aZ M id (some .dead)) w (fzL id n cs l)[i] (us i)
 | [],_,_=>⟨vR ..,  fun i h=>by simp [fzL] at h⟩
 | x::r,us,h=>by
  refine ⟨vR ..,fun i hi => ?_⟩
  have:=hM;have:=ho;obtain ⟨_,q2⟩:=kQ (l:=r) (us:=fun i=>us (i+1)) (fun i hi=>h (i+1) (by simpa using hi))
  have e:fzL id n cs (x::r)=fzA id n cs x::fzL id n cs r:=by simp only [fzL]
  simp only [e];cases i with
  | zero=>exact aGj (h 0 (by simp))
  | succ i=>exact q2 i (by simpa [vR] using hi)
end
end

def fzO(id n:Nat)(cs:List PV):Option AO→Option AO
 | some (.box ty l)=>some (.box ty (fzL id n cs l))
 | x=>x
def fz1(id:Nat)(st:St):Option St:=match fV st.m id with
 | some r=>some ⟨fzL id r.2.1 r.2.2 st.t,(aZ st.m id (some .dead)).map (fzO id r.2.1 r.2.2)⟩
 | none=>none

theorem jU{id n:Nat}{cs:List PV}{m:Mem}{j:Nat}{o':AO}(h:(m.map (fzO id n cs))[j]? = some (some o')):∃ o,m[j]? = some (some o)∧fzO id n cs (some o)=some o':=by
 rw [jA] at h
 cases hm:m[j]? with
 | none=>rw [hm] at h;cases h
 | some x =>
  rw [hm] at h
  cases x with
  | none=>simp [fzO] at h
  | some o=>exact ⟨o,rfl,by simpa using h⟩
theorem aVg{id n:Nat}{cs:List PV}{o:AO}{ty k:Nat}{ds:List PV}(h:fzO id n cs (some o)=some (.row ty k ds)):o = .row ty k ds:=by cases o <;> simp [fzO] at h ⊢;exact h
theorem oV{id n:Nat}{cs:List PV}{o o':AO}(h:fzO id n cs (some o)=some o'):o'.live=o.live:=by cases o <;> (simp [fzO] at h;subst h;rfl)

theorem aYc{id:Nat}{st st':St}{a:Act}(hf:fz1 id st=some st')(hs:Sim P C0 M0 w0 st a w):Sim P C0 M0 w0 st' a w:=by
 obtain ⟨C,hS,hM,hF,hD⟩:=hs;unfold fz1 at hf
 split at hf
 ·rename_i r hr
  cases hf;have ho:=dL hr;have hk:=dE (C:=C) (w:=w) true ho rfl;have hm:=pA hM true ho rfl;have hL:Le (C.close id true) (C.close id true) (aZ st.m id (some .dead)) ((aZ st.m id (some .dead)).map (fzO id r.2.1 r.2.2)) w w:=by
   refine ⟨fun i o h => ?_,fun i o h ty n cs hm => ?_,fun i o h o' hm hl => ?_,fun _ h=>h,fun _ _=>rfl⟩
   ·rw [jA,h]
    cases o <;> exact ⟨_,rfl⟩
   ·obtain ⟨o2,h2,h3⟩:=jU hm
    rw [aVg h3] at h2
    exact ⟨_,h2⟩
   ·obtain ⟨o2,h2,h3⟩:=jU hm
    rw [h] at h2;cases h2
    exact ⟨by rw [← oV h3];exact hl,rfl,rfl⟩
  have hf2:Fr (C.close id true) (aZ st.m id (some .dead)) w (C.close id true) ((aZ st.m id (some .dead)).map (fzO id r.2.1 r.2.2)) w:=by
   refine ⟨rfl,rfl,rfl,dM _,fun _ _ _=>rfl,fun i o h=>⟨hL.ids i o h,rfl,rfl⟩,hL.row,fun i o h o' hm hl=>(hL.liv i o h o' hm hl).1,fun i o b h hl hb => ?_,fun _ h=>h,fun _ h => .inl h⟩
   obtain ⟨o2,h2,h3⟩:=jU h;exact .inr ⟨i,o2,h2,by rw [← oV h3];exact hl,hb⟩
  refine ⟨C.close id true,⟨?_,fun i hi => ?_⟩,⟨fun i ty n cs h => ?_,fun i ty cs h => ?_,fun i es cl h => ?_,fun i i' o1 o2 b h1 l1 h2 l2 => ?_,fun i o b h hl => ?_,hm.Fs,fun i o b h hl => ?_⟩,(hF.trans hk).trans hf2,(hD.fr hM (gP rfl) hk).fr hm (fun i to ti sz L q=>by
   obtain ⟨o2,h2,h3⟩:=jU q;cases o2 with
   | pk=>simp only [fzO,Option.some.injEq] at h3;rw [← h3];exact h2
   | _=>simp [fzO] at h3) hf2⟩
  ·rw [vR];exact hS.size
  ·exact ((kQ hM ho hS.rep).2 i hi).mono hL
  ·obtain ⟨o2,h2,h3⟩:=jU h
   rw [aVg h3] at h2
   exact hm.row _ _ _ _ h2
  ·obtain ⟨o2,h2,h3⟩:=jU h
   cases o2 with
   | box ty' l =>
    simp only [fzO,Option.some.injEq,AO.box.injEq] at h3
    obtain ⟨rfl,rfl⟩:=h3;have hne:i≠id:=fun e=>by
     subst e;rw [aY] at h2;cases h2
    obtain ⟨b,arr,q0,q1,q2,q3,q4⟩:=hM.box _ _ _ ((aQ st.m id i _ _ (Ne.symm hne)).1 h2);obtain ⟨r1,r2⟩:=kQ hM ho (us:=fun j=>arr.getD j undef) q3
    exact ⟨b,arr,q0,q1,by rw [r1];exact q2,fun j hj=>(r2 j hj).mono hL,fun j hj=>q4 j (by rw [r1] at hj;exact hj)⟩
   | row=>simp [fzO] at h3
   | mp=>simp [fzO] at h3
   | pk=>simp [fzO] at h3
   | dead=>simp [fzO] at h3
  ·obtain ⟨o2,h2,h3⟩:=jU h
   have:o2 = .mp es cl:=by cases o2 <;> simp [fzO] at h3 ⊢;exact h3
   subst this;obtain ⟨b,arr,q0,q1,q2,q3⟩:=hm.mp _ _ _ h2;refine ⟨b,arr,q0,q1,q2,fun j hj => ?_⟩
   obtain ⟨en,r1,r2,r3,r4⟩:=q3 j hj;exact ⟨en,r1,r2,r3,r4.mono hL.F hL.fz⟩
  ·obtain ⟨o3,h3,h4⟩:=jU h1
   obtain ⟨o5,h5,h6⟩:=jU h2;exact hm.inj i i' o3 o5 b h3 (by rw [← oV h4];exact l1) h5 (by rw [← oV h6];exact l2)
  ·obtain ⟨o3,h3,h4⟩:=jU h
   exact hm.nF i o3 b h3 (by rw [← oV h4];exact hl)
  ·obtain ⟨o3,h3,h4⟩:=jU h
   exact hm.lt i o3 b h3 (by rw [← oV h4];exact hl)
 ·cases hf

def forget:List Nat→List AV→List AV
 | [],l=>l
 | i::r,l=>forget r (l.set i .any)
theorem vS:∀ (g:List Nat) {ts:List AV} {us:Array Value},eI C M w ts us→eI C M w (forget g ts) us
 | [],_,_,h=>h
 | i::r,ts,us,h=>by
  refine vS r ⟨by simpa using h.size,fun j hj => ?_⟩
  simp only [vA] at hj
  rw [xU]
  split
  ·exact .any _
  ·exact h.rep j hj
theorem aIl(g:List Nat){st:St}{a:Act}(hs:Sim P C0 M0 w0 st a w):Sim P C0 M0 w0 ⟨forget g st.t,st.m⟩ a w:=by
 obtain ⟨C,hS,hM,hF,hD⟩:=hs;exact ⟨C,vS g hS,hM,hF,hD⟩
end
section
variable {P:Program} {T:TT} {E:Env} {C C0:Cx} {M M0:Mem} {w w0:World}

def Cx.shut(C:Cx)(id:Nat):Cx:={ ι:=C.ι,κ:=C.κ,F:=fun b=>C.F b∨aQn (C.κ id) b }
section
variable {id to ti sz:Nat} {L:List (Nat × List PV)}
variable (q:aQo C M w id to ti sz L) (ho:M[id]? = some (some (.pk to ti sz L))) (hL:Le C (C.shut id) M (aZ M id (some .dead)) w w)
include q ho hL
end

def fzP(id:Nat)(st:St):Option St:=none
theorem aYa{id:Nat}{st st':St}{a:Act}(h:fzP id st=some st')(hs:Sim P C0 M0 w0 st a w):Sim P C0 M0 w0 st' a w:=by
 unfold fzP at h
 cases h
def nlP(i to ti sz:Nat)(st:St):Option St:=none
theorem aYb{i to ti sz:Nat}{st st':St}{a:Act}(h:nlP i to ti sz st=some st')(hs:Sim P C0 M0 w0 st a w):Sim P C0 M0 w0 st' a w:=by
 unfold nlP at h
 cases h
end
section
variable {P:Program} {T:TT} {E:Env} {C C0:Cx} {M M0:Mem} {w w0:World}

inductive Cz where
 | bx (cs:List PV)
 | mp (es:List (Value × PV))
mutual
def czA(id:Nat)(y:Cz):AV→AV
 | .ptr i off=>match Nat.beq i id with
  | true=>match y with
   | .bx cs => .rp cs off
   | .mp _ => .ptr i off
  | false => .ptr i off
 | .mp i=>match Nat.beq i id with
  | true=>match y with
   | .mp es => .p (.mp es)
   | .bx _ => .mp i
  | false => .mp i
 | .agg l=>kA (czL id y l)
 | .tup l => .tup (czL id y l)
 | .fn f a b => .fn f (czL id y a) (czL id y b)
 | .own i => .own i
 | .arr i off k => .arr i off k
 | .p x => .p x
 | .rp cs o => .rp cs o
 | .yld l => .yld l
 | .kb b => .kb b
 | .pa i q => .pa i q
 | .any => .any
def czL(id:Nat)(y:Cz):List AV→List AV
 | []=>[]
 | x::r=>czA id y x::czL id y r
end
theorem vQ(id:Nat)(y:Cz):∀ l:List AV,(czL id y l).length=l.length
 | []=>rfl
 | x::r=>by simp only [czL,qZ,vQ id y r]

def pvs1:AV→Option PV
 | .p x=>some x
 | .kb b=>some (.v (.bool b))
 | .rp cs off=>some (.rp cs off)
 | _=>none
def aXx:List AV→Option (List PV)
 | []=>some []
 | x::r=>match pvs1 x with
  | some y=>match aXx r with
   | some l=>some (y::l)
   | none=>none
  | none=>none
theorem aVe:∀ {l:List AV} {cs:List PV},aXx l=some cs→cs.length=l.length∧∀ (i:Nat) (h:i<l.length) (h':i<cs.length),pvs1 l[i]=some cs[i]
 | [],cs,h=>by cases h;exact ⟨rfl,fun i h=>by simp at h⟩
 | x::r,cs,h=>by
  unfold aXx at h
  split at h
  ·rename_i y hy
   split at h
   ·rename_i k hk
    cases h;obtain ⟨q1,q2⟩:=aVe hk;refine ⟨by simp [q1],fun i h1 h2 => ?_⟩
    cases i with
    | zero=>exact hy
    | succ i=>exact q2 i (by simpa using h1) (by simpa using h2)
   ·cases h
  ·cases h
theorem bGj{x:AV}{y:PV}{u:Value}(e:pvs1 x=some y)(h:Rep C M w x u):cN C.F w y u:=by
 cases x <;> simp [pvs1] at e
 ·subst e;cases h;assumption
 ·subst e;cases h;exact .rp _ _ _ _ _ ‹_› ‹_› ‹_›
 ·subst e;cases h;exact .v _
def bMk(y:Cz)(o:AO):Prop:=match y with
 | .bx cs=>∃ ty l,o = .box ty l∧aXx l=some cs
 | .mp es=>∃ cl,o = .mp es cl
theorem bMk.live{y:Cz}{o:AO}(h:bMk y o):o.live=true:=by
 cases y with
 | bx cs=>obtain ⟨ty,l,rfl,_⟩:=h;rfl
 | mp es=>obtain ⟨cl,rfl⟩:=h;rfl

section
variable {id:Nat} {y:Cz} {o:AO} (hM:aR P C M w) (ho:M[id]? = some (some o)) (hz:bMk y o)
include hM ho hz
mutual
theorem aXy:∀ {x:AV} {u:Value},Rep C M w x u→Rep (C.close id true) (aZ M id (some .dead)) w (czA id y x) u
 | .ptr i off,u,h=>by
  have hL:=hM.le (dE true ho hz.live);simp only [czA]
  split
  ·rename_i hb
   have:=Nat.eq_of_beq_eq_true hb;subst this;cases y with
   | mp es=>exact h.mono hL
   | bx cs =>
    obtain ⟨ty,l,rfl,hl⟩:=hz;obtain ⟨b,rfl,hb⟩:=gQ h (jE ho rfl);obtain ⟨b',arr,hb',q1,q2,q3,q4⟩:=hM.box _ _ _ ho;rw [hb] at hb';cases hb'
    obtain ⟨r1,r2⟩:=aVe hl;have:=Rep.rp (C:=C.close i true) (M:=aZ M i (some .dead)) (w:=w) cs off b 0 (fun j=>arr.getD j undef) (fun i hi=>⟨.inr ⟨rfl,hb⟩,by rw [gN];exact bX q1 (by omega)⟩)
     (fun i hi=>(bGj (r2 i (by omega) hi) (q3 i (by omega))).mono (fun _ h => .inl h) (fun _ _=>rfl)) (fun i hi=>q4 i (by omega))
    rwa [gN] at this
  ·exact h.mono hL
 | .mp i,u,h=>by
  have hL:=hM.le (dE true ho hz.live);simp only [czA]
  split
  ·rename_i hb
   have:=Nat.eq_of_beq_eq_true hb;subst this;cases y with
   | bx cs=>exact h.mono hL
   | mp es =>
    obtain ⟨cl,rfl⟩:=hz;obtain ⟨b,arr,rfl,hb,q1,q2,q3⟩:=aIw hM h (bE.2 ho);refine .p _ _ (.mp es b cl arr (fun j=>(arr.getD j ⟨undef,undef,0⟩).val) (.inr ⟨rfl,hb⟩) q1 q2 (fun j hj => ?_) fun j hj => ?_)
    ·obtain ⟨e,r1,r2,r3,r4⟩:=q3 j hj
     exact ⟨e,r1,r2,r3,by rw [kQ2,r1];rfl⟩
    ·obtain ⟨e,r1,r2,r3,r4⟩:=q3 j hj
     rw [kQ2,r1];exact r4.mono (fun _ h => .inl h) (fun _ _=>rfl)
  ·exact h.mono hL
 | .agg l,u,h=>by
  cases h with
  | agg _ vs h0 h1 h2 =>
   simp only [czA];obtain ⟨q1,q2⟩:=kP (us:=fun i=>vs.getD i undef) h2
   exact lG (fun i hi=>h0 i (by omega)) (by omega) q2
 | .tup l,u,h=>by
  cases h with
  | tup _ vs h1 h2 =>
   simp only [czA];obtain ⟨q1,q2⟩:=kP (us:=fun i=>vs.getD i undef) h2
   exact .tup _ _ (by omega) q2
 | .fn f a b,u,h=>by
  cases h with
  | fn _ _ _ us vs h1 h2 h3 h4 =>
   simp only [czA];obtain ⟨q1,q2⟩:=kP (us:=fun i=>us.getD i undef) h3
   obtain ⟨r1,r2⟩:=kP (us:=fun i=>vs.getD i undef) h4
   exact .fn f _ _ us vs (by omega) (by omega) q2 r2
 | .own i,u,h=>by simp only [czA];exact h.mono (hM.le (dE true ho hz.live))
 | .arr i off k,u,h=>by simp only [czA];exact h.mono (hM.le (dE true ho hz.live))
 | .p x,u,h=>by simp only [czA];exact h.mono (hM.le (dE true ho hz.live))
 | .rp cs o,u,h=>by simp only [czA];exact h.mono (hM.le (dE true ho hz.live))
 | .yld l,u,h=>by simp only [czA];exact h.mono (hM.le (dE true ho hz.live))
 | .kb b,u,h=>by simp only [czA];exact h.mono (hM.le (dE true ho hz.live))
 | .pa i q,u,h=>by simp only [czA];exact h.mono (hM.le (dE true ho hz.live))
 | .any,u,h=>by simp only [czA];exact .any _
theorem kP:∀ {l:List AV} {us:Nat→Value},(∀ i (h:i<l.length),Rep C M w l[i] (us i))→(czL id y l).length=l.length∧∀ i (h:i<(czL id y l).length),Rep (C.close id true) (aZ M id (some .dead)) w (czL id y l)[i] (us i)
 | [],_,_=>by
  have:=hM;have:=ho;have:=hz;exact ⟨vQ ..,fun i h=>by simp [czL] at h⟩
 | x::r,us,h=>by
  refine ⟨vQ ..,fun i hi => ?_⟩
  obtain ⟨_,q2⟩:=kP (l:=r) (us:=fun i=>us (i+1)) (fun i hi=>h (i+1) (by simpa using hi))
  have e:czL id y (x::r)=czA id y x::czL id y r:=by simp only [czL]
  simp only [e];cases i with
  | zero=>exact aXy (h 0 (by simp))
  | succ i=>exact q2 i (by simpa [vQ] using hi)
end
end

def czO(id:Nat)(y:Cz):Option AO→Option AO
 | some (.box ty l)=>some (.box ty (czL id y l))
 | x=>x
def bSv(m:Mem)(id:Nat):Option Cz:=match bV m id with
 | some (.box _ l)=>(aXx l).map .bx
 | some (.mp es _)=>some (.mp es)
 | _=>none
def fzM(id:Nat)(st:St):Option St:=match bSv st.m id with
 | some y=>some ⟨czL id y st.t,(aZ st.m id (some .dead)).map (czO id y)⟩
 | none=>none
theorem bGk{m:Mem}{id:Nat}{y:Cz}(h:bSv m id=some y):∃ o,m[id]? = some (some o)∧bMk y o:=by
 unfold bSv at h
 split at h
 ·rename_i ty l ho
  cases hl:aXx l with
  | none=>rw [hl] at h;cases h
  | some cs=>rw [hl] at h;cases h;exact ⟨_,bE.1 ho,ty,l,rfl,hl⟩
 ·rename_i es cl ho
  cases h;exact ⟨_,bE.1 ho,cl,rfl⟩
 ·cases h
theorem jT{id:Nat}{y:Cz}{m:Mem}{j:Nat}{o':AO}(h:(m.map (czO id y))[j]? = some (some o')):∃ o,m[j]? = some (some o)∧czO id y (some o)=some o':=by
 rw [jA] at h
 cases hm:m[j]? with
 | none=>rw [hm] at h;cases h
 | some x =>
  rw [hm] at h
  cases x with
  | none=>simp [czO] at h
  | some o=>exact ⟨o,rfl,by simpa using h⟩
theorem aVf{id:Nat}{y:Cz}{o:AO}{ty k:Nat}{ds:List PV}(h:czO id y (some o)=some (.row ty k ds)):o = .row ty k ds:=by cases o <;> simp [czO] at h ⊢;exact h
theorem oU{id:Nat}{y:Cz}{o o':AO}(h:czO id y (some o)=some o'):o'.live=o.live:=by cases o <;> (simp [czO] at h;subst h;rfl)

theorem aXz{id:Nat}{st st':St}{a:Act}(hf:fzM id st=some st')(hs:Sim P C0 M0 w0 st a w):Sim P C0 M0 w0 st' a w:=by
 obtain ⟨C,hS,hM,hF,hD⟩:=hs;unfold fzM at hf
 split at hf
 ·rename_i y hr
  cases hf;obtain ⟨o,ho,hz⟩:=bGk hr;have hk:=dE (C:=C) (w:=w) true ho hz.live;have hm:=pA hM true ho hz.live;have hL:Le (C.close id true) (C.close id true) (aZ st.m id (some .dead)) ((aZ st.m id (some .dead)).map (czO id y)) w w:=by
   refine ⟨fun i o h => ?_,fun i o h ty n cs hm => ?_,fun i o h o' hm hl => ?_,fun _ h=>h,fun _ _=>rfl⟩
   ·rw [jA,h]
    cases o <;> exact ⟨_,rfl⟩
   ·obtain ⟨o2,h2,h3⟩:=jT hm
    rw [aVf h3] at h2
    exact ⟨_,h2⟩
   ·obtain ⟨o2,h2,h3⟩:=jT hm
    rw [h] at h2;cases h2
    exact ⟨by rw [← oU h3];exact hl,rfl,rfl⟩
  have hf2:Fr (C.close id true) (aZ st.m id (some .dead)) w (C.close id true) ((aZ st.m id (some .dead)).map (czO id y)) w:=by
   refine ⟨rfl,rfl,rfl,dM _,fun _ _ _=>rfl,fun i o h=>⟨hL.ids i o h,rfl,rfl⟩,hL.row,fun i o h o' hm hl=>(hL.liv i o h o' hm hl).1,fun i o b h hl hb => ?_,fun _ h=>h,fun _ h => .inl h⟩
   obtain ⟨o2,h2,h3⟩:=jT h;exact .inr ⟨i,o2,h2,by rw [← oU h3];exact hl,hb⟩
  refine ⟨C.close id true,⟨?_,fun i hi => ?_⟩,⟨fun i ty n cs h => ?_,fun i ty cs h => ?_,fun i es cl h => ?_,fun i i' o1 o2 b h1 l1 h2 l2 => ?_,fun i o b h hl => ?_,hm.Fs,fun i o b h hl => ?_⟩,(hF.trans hk).trans hf2,(hD.fr hM (gP rfl) hk).fr hm (fun i to ti sz L q=>by
   obtain ⟨o2,h2,h3⟩:=jT q;cases o2 with
   | pk=>simp only [czO,Option.some.injEq] at h3;rw [← h3];exact h2
   | _=>simp [czO] at h3) hf2⟩
  ·rw [vQ];exact hS.size
  ·exact ((kP hM ho hz hS.rep).2 i hi).mono hL
  ·obtain ⟨o2,h2,h3⟩:=jT h
   rw [aVf h3] at h2
   exact hm.row _ _ _ _ h2
  ·obtain ⟨o2,h2,h3⟩:=jT h
   cases o2 with
   | box ty' l =>
    simp only [czO,Option.some.injEq,AO.box.injEq] at h3
    obtain ⟨rfl,rfl⟩:=h3;have hne:i≠id:=fun e=>by
     subst e;rw [aY] at h2;cases h2
    obtain ⟨b,arr,q0,q1,q2,q3,q4⟩:=hM.box _ _ _ ((aQ st.m id i _ _ (Ne.symm hne)).1 h2);obtain ⟨r1,r2⟩:=kP hM ho hz (us:=fun j=>arr.getD j undef) q3
    exact ⟨b,arr,q0,q1,by rw [r1];exact q2,fun j hj=>(r2 j hj).mono hL,fun j hj=>q4 j (by rw [r1] at hj;exact hj)⟩
   | row=>simp [czO] at h3
   | mp=>simp [czO] at h3
   | pk=>simp [czO] at h3
   | dead=>simp [czO] at h3
  ·obtain ⟨o2,h2,h3⟩:=jT h
   have:o2 = .mp es cl:=by cases o2 <;> simp [czO] at h3 ⊢;exact h3
   subst this;obtain ⟨b,arr,q0,q1,q2,q3⟩:=hm.mp _ _ _ h2;refine ⟨b,arr,q0,q1,q2,fun j hj => ?_⟩
   obtain ⟨en,r1,r2,r3,r4⟩:=q3 j hj;exact ⟨en,r1,r2,r3,r4.mono hL.F hL.fz⟩
  ·obtain ⟨o3,h3,h4⟩:=jT h1
   obtain ⟨o5,h5,h6⟩:=jT h2;exact hm.inj i i' o3 o5 b h3 (by rw [← oU h4];exact l1) h5 (by rw [← oU h6];exact l2)
  ·obtain ⟨o3,h3,h4⟩:=jT h
   exact hm.nF i o3 b h3 (by rw [← oU h4];exact hl)
  ·obtain ⟨o3,h3,h4⟩:=jT h
   exact hm.lt i o3 b h3 (by rw [← oU h4];exact hl)
 ·cases hf
end
section
variable {P:Program} {T:TT} {E:Env} {C C0:Cx} {M M0:Mem} {w w0:World}

def idx:List Nat→Nat→Nat→Option Nat
 | [],_,_=>none
 | j::r,i,n=>match Nat.beq j i with
  | true=>some n
  | false=>idx r i (n+1)
def rnI(k:Nat)(ids:List Nat)(i:Nat):Option Nat:=match Nat.blt i k with
 | true=>some i
 | false=>idx ids i k
mutual
def mpA(f:Nat→Option Nat):AV→Option AV
 | .own i=>(f i).map .own
 | .arr i off n=>(f i).map fun j => .arr j off n
 | .ptr i off=>(f i).map fun j => .ptr j off
 | .mp i=>(f i).map .mp
 | .pa i q=>(f i).map fun j => .pa j q
 | .agg l=>(mpL f l).map .agg
 | .tup l=>(mpL f l).map .tup
 | .fn g a b=>match mpL f a with
  | some a'=>(mpL f b).map fun b' => .fn g a' b'
  | none=>none
 | .p x=>some (.p x)
 | .rp cs o=>some (.rp cs o)
 | .yld l=>some (.yld l)
 | .kb b=>some (.kb b)
 | .any=>some .any
def mpL(f:Nat→Option Nat):List AV→Option (List AV)
 | []=>some []
 | x::r=>match mpA f x with
  | some y=>(mpL f r).map (y :: ·)
  | none=>none
end
def mpO(f:Nat→Option Nat):AO→Option AO
 | .row ty n cs=>some (.row ty n cs)
 | .box ty l=>(mpL f l).map (.box ty ·)
 | .mp es cl=>some (.mp es cl)
 | .pk to ti sz L=>some (.pk to ti sz L)
 | .dead=>some .dead
def mpM(f:Nat→Option Nat):Mem→Option Mem
 | []=>some []
 | none::r=>(mpM f r).map (none :: ·)
 | some o::r=>match mpO f o with
  | some o'=>(mpM f r).map (some o' :: ·)
  | none=>none
abbrev rnL(k:Nat)(ids:List Nat):=mpL (rnI k ids)
abbrev rnM(k:Nat)(ids:List Nat):=mpM (rnI k ids)
def at?(m:Mem)(i:Nat):Option AO:=bV m i
def distinct(k:Nat):List Nat→Bool
 | []=>true
 | i::r=>match Nat.ble k i with
  | true=>match r.all (fun j => !Nat.beq j i) with
   | true=>distinct k r
   | false=>false
  | false=>false
def firsts(m:Mem):Nat→Nat→Mem
 | 0,_=>[]
 | k+1,i=>at? m i::firsts m k (i+1)
def pick(k:Nat)(ids:List Nat)(st:St):Option St:=match distinct k ids with
 | true=>match rnL k ids st.t with
  | some t=>(rnM k ids (firsts st.m k 0++ids.map (at? st.m))).map (⟨t,·⟩)
  | none=>none
 | false=>none

theorem vP:∀ (ids:List Nat) (i n j:Nat),idx ids i n=some j→n≤j∧ids[j-n]? = some i
 | [],i,n,j,h=>by cases h
 | a::r,i,n,j,h=>by
  unfold idx at h
  split at h
  ·rename_i hb
   cases h;exact ⟨dM _,by rw [aZd];simp [Nat.eq_of_beq_eq_true hb]⟩
  ·obtain ⟨h1,h2⟩:=vP r i (n+1) j h
   refine ⟨by omega,?_⟩
   rw [show j-n=(j-(n+1))+1 by omega]
   simpa using h2
theorem iX{k:Nat}:∀ {ids:List Nat},distinct k ids=true→(∀ i∈ids,k≤i)∧ids.Nodup
 | [],_=>⟨by simp,.nil⟩
 | a::r,h=>by
  unfold distinct at h
  split at h
  ·rename_i h1
   split at h
   ·rename_i h2
    obtain ⟨h3,h4⟩:=iX h;refine ⟨fun i hi => ?_,?_⟩
    ·rcases jH.1 hi with rfl | hi
     ·exact Nat.le_of_ble_eq_true h1
     ·exact h3 i hi
    ·refine List.nodup_cons.2 ⟨fun hm => ?_,h4⟩
     have:=gA.1 h2 a hm;simp at this
   ·cases h
  ·cases h
theorem aGh(m:Mem):∀ (k i j:Nat),j<k→(firsts m k i)[j]? = some (bV m (i+j))
 | 0,i,j,h=>by omega
 | k+1,i,j,h=>by
  unfold firsts;cases j with
  | zero=>simp [at?]
  | succ j =>
   have:=aGh m k (i+1) j (by omega)
   rw [List.getElem?_cons_succ,this,show i+1+j=i+(j+1) by omega]
theorem mU(m:Mem):∀ (k i:Nat),(firsts m k i).length=k
 | 0,_=>rfl
 | k+1,i=>by simp [firsts,mU m k]

def nH(k:Nat)(ids:List Nat)(j:Nat):Option Nat:=if j<k then some j else ids[j-k]?
theorem aIk{k:Nat}{ids:List Nat}{i j:Nat}(h:rnI k ids i=some j):nH k ids j=some i:=by
 unfold rnI at h
 split at h
 ·rename_i hb
  cases h;have:i<k:=by simpa [Nat.blt_eq] using hb
  simp [nH,this]
 ·obtain ⟨h1,h2⟩:=vP _ _ _ _ h
  simp [nH,Nat.not_lt.2 h1,h2]
theorem aVc{k:Nat}{ids:List Nat}(hd:distinct k ids=true){j j' i:Nat}(h:nH k ids j=some i)(h':nH k ids j'=some i):j=j':=by
 obtain ⟨h1,h2⟩:=iX hd;unfold nH at h h'
 split at h <;> split at h'
 ·cases h;cases h';rfl
 ·cases h
  have:=h1 _ (kQ5 h');omega
 ·cases h'
  have:=h1 _ (kQ5 h);omega
 ·obtain ⟨q1,q2⟩:=kQ3.1 h
  obtain ⟨q3,q4⟩:=kQ3.1 h';have hp:=List.pairwise_iff_getElem.1 h2
  rcases Nat.lt_trichotomy (j-k) (j'-k) with hl | hl | hl
  ·exact absurd (q2.trans q4.symm) (hp _ _ q1 q3 hl)
  ·omega
  ·exact absurd (q4.trans q2.symm) (hp _ _ q3 q1 hl)

def Cx.rn(C:Cx)(k:Nat)(ids:List Nat):Cx:={ ι:=fun j=>(nH k ids j).bind C.ι,κ:=fun j=>match nH k ids j with | some i=>C.κ i | none=>0,F:=C.F }

theorem aBt{f:Nat→Option Nat}:∀ {m m':Mem},mpM f m=some m'→m'.length=m.length∧(∀ (j:Nat) (o':AO),m'[j]? = some (some o')→∃ o,m[j]? = some (some o)∧mpO f o=some o')∧(∀ (j:Nat) (o:AO),m[j]? = some (some o)→∃ o',m'[j]? = some (some o')∧mpO f o=some o')
 | [],m',h=>by cases h;exact ⟨rfl,fun j o h=>by simp at h,fun j o h=>by simp at h⟩
 | none::r,m',h=>by
  unfold mpM at h
  cases hr:mpM f r with
  | none=>rw [hr] at h;cases h
  | some r' =>
   rw [hr] at h;cases h
   obtain ⟨h1,h2,h3⟩:=aBt hr;refine ⟨by simp [h1],fun j o hj => ?_,fun j o hj => ?_⟩
   ·cases j with
    | zero=>simp at hj
    | succ j=>exact h2 j o (by simpa using hj)
   ·cases j with
    | zero=>simp at hj
    | succ j=>exact h3 j o (by simpa using hj)
 | some o::r,m',h=>by
  unfold mpM at h
  split at h
  ·rename_i o' ho'
   cases hr:mpM f r with
   | none=>rw [hr] at h;cases h
   | some r' =>
    rw [hr] at h;cases h
    obtain ⟨h1,h2,h3⟩:=aBt hr;refine ⟨by simp [h1],fun j o hj => ?_,fun j o hj => ?_⟩
    ·cases j with
     | zero=>simp at hj;subst hj;exact ⟨_,rfl,ho'⟩
     | succ j=>exact h2 j o (by simpa using hj)
    ·cases j with
     | zero=>simp at hj;subst hj;exact ⟨_,rfl,ho'⟩
     | succ j=>exact h3 j o (by simpa using hj)
  ·cases h

theorem bO{f:Nat→Option Nat}{o o':AO}(h:mpO f o=some o'):o'.live=o.live:=by
 cases o <;> simp only [mpO,kL,Option.some.injEq] at h
 ·subst h;rfl
 ·obtain ⟨_,_,rfl⟩:=h;rfl
 ·subst h;rfl
 ·subst h;rfl
 ·subst h;rfl
theorem lB{f:Nat→Option Nat}{o:AO}{ty n:Nat}{cs:List PV}(h:mpO f o=some (.row ty n cs)):o = .row ty n cs:=by
 cases o <;> simp only [mpO,kL,Option.some.injEq] at h
 ·exact h
 ·obtain ⟨_,_,h⟩:=h;cases h
 ·cases h
 ·cases h
 ·cases h
structure aXt (f:Nat→Option Nat) (C C':Cx) (M M':Mem):Prop where
 bk:∀ (i j:Nat) (o':AO),f i=some j→M'[j]? = some (some o')→∃ o,M[i]? = some (some o)∧mpO f o=some o'
 fw:∀ (i j:Nat) (o:AO),f i=some j→M[i]? = some (some o)→∃ o',M'[j]? = some (some o')∧mpO f o=some o'
 at_:∀ i j,f i=some j→C'.ι j=C.ι i∧C'.κ j=C.κ i
 F:∀ b,C.F b→C'.F b

section
variable {f:Nat→Option Nat} {C':Cx} {M':Mem} (hm:aXt f C C' M M')
include hm
set_option linter.unusedSectionVars false in
mutual
theorem sR:∀ {x y:AV} {u:Value},Rep C M w x u→mpA f x=some y→Rep C' M' w y u
 | .own i,y,u,h,hr=>by
  simp only [mpA,kL] at hr
  obtain ⟨j,hj,rfl⟩:=hr;cases h with
  | own _ u h0 ha h =>
   obtain ⟨o,ho⟩:=ha;obtain ⟨o',ho',_⟩:=hm.fw _ _ _ hj ho;refine .own j u h0 ⟨o',ho'⟩ fun ty n cs hx => ?_
   obtain ⟨o2,e2,e3⟩:=hm.bk _ _ _ hj hx;rw [lB e3] at e2
   rw [(hm.at_ _ _ hj).1,(hm.at_ _ _ hj).2];exact h _ _ _ e2
 | .arr i off n,y,u,h,hr=>by
  simp only [mpA,kL] at hr
  obtain ⟨j,hj,rfl⟩:=hr;cases h with
  | arr _ _ _ u h0 ha h =>
   obtain ⟨o,ho⟩:=ha;obtain ⟨o',ho',_⟩:=hm.fw _ _ _ hj ho;refine .arr j off n u h0 ⟨o',ho'⟩ fun o3 hx hl => ?_
   obtain ⟨o2,e2,e3⟩:=hm.bk _ _ _ hj hx;rw [(hm.at_ _ _ hj).1];exact h _ e2 (by rw [← bO e3];exact hl)
 | .ptr i off,y,u,h,hr=>by
  simp only [mpA,kL] at hr
  obtain ⟨j,hj,rfl⟩:=hr;cases h with
  | ptr _ _ u h0 ha h hp =>
   obtain ⟨o,ho⟩:=ha;obtain ⟨o',ho',_⟩:=hm.fw _ _ _ hj ho;refine .ptr j off u h0 ⟨o',ho'⟩ (fun o3 hx hl => ?_) hp
   obtain ⟨o2,e2,e3⟩:=hm.bk _ _ _ hj hx;rw [(hm.at_ _ _ hj).1];exact h _ e2 (by rw [← bO e3];exact hl)
 | .mp i,y,u,h,hr=>by
  simp only [mpA,kL] at hr
  obtain ⟨j,hj,rfl⟩:=hr;cases h with
  | mp _ u h0 ha h =>
   obtain ⟨o,ho⟩:=ha;obtain ⟨o',ho',_⟩:=hm.fw _ _ _ hj ho;refine .mp j u h0 ⟨o',ho'⟩ fun o3 hx hl => ?_
   obtain ⟨o2,e2,e3⟩:=hm.bk _ _ _ hj hx;rw [(hm.at_ _ _ hj).1];exact h _ e2 (by rw [← bO e3];exact hl)
 | .pa i q,y,u,h,hr=>by
  simp only [mpA,kL] at hr
  obtain ⟨j,hj,rfl⟩:=hr;cases h with
  | pa _ _ u h0 ha h =>
   obtain ⟨o,ho⟩:=ha;obtain ⟨o',ho',_⟩:=hm.fw _ _ _ hj ho;refine .pa j q u h0 ⟨o',ho'⟩ fun o3 hx hl => ?_
   obtain ⟨o2,e2,e3⟩:=hm.bk _ _ _ hj hx;rw [(hm.at_ _ _ hj).2];exact h _ e2 (by rw [← bO e3];exact hl)
 | .agg l,y,u,h,hr=>by
  simp only [mpA,kL] at hr
  obtain ⟨l',hl,rfl⟩:=hr;cases h with
  | agg _ vs h0 h1 h4 =>
   obtain ⟨q1,q2⟩:=gE (us:=fun i=>vs.getD i undef) h4 hl
   exact .agg _ _ (fun i hi=>h0 i (by omega)) (by omega) q2
 | .tup l,y,u,h,hr=>by
  simp only [mpA,kL] at hr
  obtain ⟨l',hl,rfl⟩:=hr;cases h with
  | tup _ vs h1 h4 =>
   obtain ⟨q1,q2⟩:=gE (us:=fun i=>vs.getD i undef) h4 hl
   exact .tup _ _ (by omega) q2
 | .fn g a b,y,u,h,hr=>by
  simp only [mpA] at hr
  split at hr
  ·rename_i a' ha
   simp only [kL] at hr
   obtain ⟨b',hb,rfl⟩:=hr;cases h with
   | fn _ _ _ us vs h1 h4 h5 h6 =>
    obtain ⟨q1,q2⟩:=gE (us:=fun i=>us.getD i undef) h5 ha
    obtain ⟨r1,r2⟩:=gE (us:=fun i=>vs.getD i undef) h6 hb
    exact .fn g _ _ us vs (by omega) (by omega) q2 r2
  ·cases hr
 | .p x,y,u,h,hr=>by simp only [mpA] at hr;cases hr;cases h with | p _ _ h=>exact .p _ _ (h.mono hm.F (fun _ _=>rfl))
 | .rp cs o,y,u,h,hr=>by
  simp only [mpA] at hr;cases hr
  cases h with | rp _ _ b o us h1 h2 h3=>exact .rp cs _ b o us (fun i hi=>⟨hm.F _ (h1 i hi).1,(h1 i hi).2⟩) (fun i hi=>(h2 i hi).mono hm.F (fun _ _=>rfl)) h3
 | .yld l,y,u,h,hr=>by simp only [mpA] at hr;cases hr;cases h;exact .yld _
 | .kb b,y,u,h,hr=>by simp only [mpA] at hr;cases hr;cases h;exact .kb _
 | .any,y,u,h,hr=>by simp only [mpA] at hr;cases hr;exact .any _
theorem gE:∀ {l ys:List AV} {us:Nat→Value},(∀ i (h:i<l.length),Rep C M w l[i] (us i))→mpL f l=some ys→ys.length=l.length∧∀ i (h:i<ys.length),Rep C' M' w ys[i] (us i)
 | [],_,_,_,hr=>by simp only [mpL] at hr;cases hr;exact ⟨rfl,fun i h=>by simp at h⟩
 | x::r,ys,us,h,hr=>by
  simp only [mpL] at hr
  split at hr
  ·rename_i y hy
   simp only [kL] at hr
   obtain ⟨r',hr',rfl⟩:=hr;obtain ⟨q1,q2⟩:=gE (us:=fun i=>us (i+1)) (fun i hi=>h (i+1) (by simpa using hi)) hr'
   refine ⟨by simp [q1],fun i hi => ?_⟩
   cases i with
   | zero=>exact sR (h 0 (by simp)) hy
   | succ i=>exact q2 i (by simpa using hi)
  ·cases hr
end
end

theorem rC{k:Nat}{ids:List Nat}{M':Mem}(hM:aR P C M w)(hd:distinct k ids=true)(hm':rnM k ids (firsts M k 0++ids.map (at? M))=some M') :
  aR P (C.rn k ids) M' w∧aXt (rnI k ids) C (C.rn k ids) M M'∧∀ (j:Nat) (o':AO),M'[j]? = some (some o')→∃ i o,nH k ids j=some i∧M[i]? = some (some o)∧mpO (rnI k ids) o=some o':=by
 obtain ⟨g1,g2,g3⟩:=aBt hm';have hat:∀ (i j:Nat) (o:AO),nH k ids j=some i→((firsts M k 0++ids.map (at? M))[j]? = some (some o)↔M[i]? = some (some o)):=fun i j o hs=>by
  unfold nH at hs
  split at hs
  ·rename_i hj
   cases hs;rw [aAh (by rw [mU];exact hj),aGh _ _ _ _ hj,gN,Option.some.injEq,bE]
  ·rename_i hj
   rw [aAg (by rw [mU];omega),mU,jA,hs,Option.map_some,Option.some.injEq]
   exact bE
 have hsrc:∀ (j:Nat) (o:AO),(firsts M k 0++ids.map (at? M))[j]? = some (some o)→∃ i,nH k ids j=some i:=fun j o hj=>by
  unfold nH
  split
  ·exact ⟨_,rfl⟩
  ·obtain ⟨hl,_⟩:=kQ3.1 hj
   rw [kT,mU,eR] at hl
   exact ⟨_,kQ0 (by omega)⟩
 have h2:∀ (j:Nat) (o':AO),M'[j]? = some (some o')→∃ i o,nH k ids j=some i∧M[i]? = some (some o)∧mpO (rnI k ids) o=some o':=fun j o' hj=>by
  obtain ⟨o,q1,q2⟩:=g2 j o' hj;obtain ⟨i,hi⟩:=hsrc j o q1;exact ⟨i,o,hi,(hat i j o hi).1 q1,q2⟩
 have hi:∀ j i,nH k ids j=some i→(C.rn k ids).ι j=C.ι i∧(C.rn k ids).κ j=C.κ i:=fun j i h=>by simp [Cx.rn,h]
 have hmp:aXt (rnI k ids) C (C.rn k ids) M M':=⟨fun i j o' hf hj=>by
  obtain ⟨i',o,q1,q2,q3⟩:=h2 j o' hj;rw [aIk hf] at q1;cases q1
  exact ⟨o,q2,q3⟩,fun i j o hf ho=>g3 j o ((hat i j o (aIk hf)).2 ho),fun i j hf=>hi j i (aIk hf),fun _ h=>h⟩
 refine ⟨⟨fun j ty n cs h => ?_,fun j ty cs h => ?_,fun j es cl h => ?_,fun j j' o1 o2 b q1 l1 q2 l2 e1 e2 => ?_,fun j o b h hl hb => ?_,hM.Fs,fun j o b h hl hb => ?_⟩,hmp,h2⟩
 ·obtain ⟨i,o,q1,q2,q3⟩:=h2 _ _ h
  rw [lB q3] at q2
  obtain ⟨r1,r2⟩:=hi j i q1;rw [r1,r2];exact hM.row _ _ _ _ q2
 ·obtain ⟨i,o,q1,q2,q3⟩:=h2 _ _ h
  obtain ⟨r1,r2⟩:=hi j i q1;cases o with
  | box ty' l =>
   simp only [mpO,kL] at q3
   obtain ⟨l',hl',e⟩:=q3;cases e;obtain ⟨b,arr,p0,p1,p2,p3,p4⟩:=hM.box _ _ _ q2;obtain ⟨n1,n2⟩:=gE hmp (w:=w) (us:=fun j=>arr.getD j undef) p3 hl'
   exact ⟨b,arr,by rw [r1];exact p0,p1,by omega,n2,fun j hj=>p4 j (by omega)⟩
  | row=>simp [mpO] at q3
  | mp=>simp [mpO] at q3
  | pk=>simp [mpO] at q3
  | dead=>simp [mpO] at q3
 ·obtain ⟨i,o,q1,q2,q3⟩:=h2 _ _ h
  obtain ⟨r1,r2⟩:=hi j i q1;cases o with
  | mp es' cl' =>
   simp only [mpO,Option.some.injEq] at q3
   cases q3;obtain ⟨b,arr,p0,p1,p2,p3⟩:=hM.mp _ _ _ q2;exact ⟨b,arr,by rw [r1];exact p0,p1,p2,p3⟩
  | row=>simp [mpO] at q3
  | box=>simp [mpO] at q3
  | pk=>simp [mpO] at q3
  | dead=>simp [mpO] at q3
 ·obtain ⟨i,o,q3,q4,q5⟩:=h2 _ _ q1
  obtain ⟨i',o',q6,q7,q8⟩:=h2 _ _ q2;rw [(hi _ _ q3).1] at e1
  rw [(hi _ _ q6).1] at e2
  have:=hM.inj i i' o o' b q4 (by rw [← bO q5];exact l1) q7 (by rw [← bO q8];exact l2) e1 e2
  subst this;exact aVc hd q3 q6
 ·obtain ⟨i,o',q3,q4,q5⟩:=h2 _ _ h
  rw [(hi _ _ q3).1] at hb
  exact hM.nF i o' b q4 (by rw [← bO q5];exact hl) hb
 ·obtain ⟨i,o',q3,q4,q5⟩:=h2 _ _ h
  rw [(hi _ _ q3).1] at hb
  exact hM.lt i o' b q4 (by rw [← bO q5];exact hl) hb

theorem aPs{k:Nat}{ids:List Nat}{st st':St}{a:Act}(hk:M0.length≤k)(hp:pick k ids st=some st')(hs:Sim P C0 M0 w0 st a w):Sim P C0 M0 w0 st' a w:=by
 obtain ⟨C,hS,hM,hF,hD⟩:=hs;unfold pick at hp
 split at hp
 ·rename_i hd
  split at hp
  ·rename_i t ht
   simp only [kL] at hp
   obtain ⟨M',hm',rfl⟩:=hp;obtain ⟨hM',hmp,h2⟩:=rC hM hd hm';obtain ⟨t1,t2⟩:=gE hmp (w:=w) (us:=fun i=>a.tmps.getD i undef) hS.rep ht
   have hi:∀ j i,nH k ids j=some i→(C.rn k ids).ι j=C.ι i∧(C.rn k ids).κ j=C.κ i:=fun j i h=>by simp [Cx.rn,h]
   have small:∀ (i:Nat) (o:AO),M0[i]? = some (some o)→nH k ids i=some i∧rnI k ids i=some i:=fun i o h=>by
    obtain ⟨hl,_⟩:=kQ3.1 h;have hik:i<k:=by omega
    have hb:Nat.blt i k=true:=by rw [Nat.blt_eq];exact hik
    exact ⟨by simp [nH,hik],by simp only [rnI,hb]⟩
   refine ⟨C.rn k ids,⟨by rw [hS.size];exact t1.symm,t2⟩,hM',
    ⟨hF.os,hF.tape,hF.out,hF.size,hF.keep,fun i o h => ?_,fun i o h ty n cs hx => ?_,fun i o h o' hx hl => ?_,fun j o b h hl hb => ?_,hF.F1,hF.F2⟩,hD.1,fun p hp => ?_,?_⟩
   ·obtain ⟨⟨o',q1⟩,q2,q3⟩:=hF.ids i o h
    obtain ⟨o2,q4,_⟩:=hmp.fw i i o' (small i o h).2 q1;obtain ⟨r1,r2⟩:=hi i i (small i o h).1;exact ⟨⟨o2,q4⟩,r1.trans q2,r2.trans q3⟩
   ·obtain ⟨i',o',q3,q4,q5⟩:=h2 _ _ hx
    rw [(small i o h).1] at q3;cases q3
    rw [lB q5] at q4
    exact hF.row _ _ h _ _ _ q4
   ·obtain ⟨i',o2,q3,q4,q5⟩:=h2 _ _ hx
    rw [(small i o h).1] at q3;cases q3
    exact hF.liv _ _ h _ q4 (by rw [← bO q5];exact hl)
   ·obtain ⟨i,o',q3,q4,q5⟩:=h2 _ _ h
    rw [(hi _ _ q3).1] at hb
    exact hF.new i o' b q4 (by rw [← bO q5];exact hl) hb
   ·obtain ⟨r1,r2,r3,r4,r5⟩:=hD.2.1 p hp
    refine ⟨r1,r2,r3,r4,fun j o h hl hb => ?_⟩
    obtain ⟨i,o',q3,q4,q5⟩:=h2 _ _ h;rw [(hi _ _ q3).1] at hb
    exact r5 i o' q4 (by rw [← bO q5];exact hl) hb
   ·have lv:∀ (j:Nat) (o:AO),M'[j]? = some (some o)→o.live=true→∃ i o',nH k ids j=some i∧st.m[i]? = some (some o')∧o'.live=true:=fun j o h hl=>by
     obtain ⟨i,o',q3,q4,q5⟩:=h2 _ _ h;exact ⟨i,o',q3,q4,by rw [← bO q5];exact hl⟩
    have pk:∀ (j to ti sz:Nat) (L:List (Nat × List PV)),M'[j]? = some (some (.pk to ti sz L))→∃ i,nH k ids j=some i∧st.m[i]? = some (some (.pk to ti sz L)):=fun j to ti sz L h=>by
     obtain ⟨i,o',q3,q4,q5⟩:=h2 _ _ h;refine ⟨i,q3,?_⟩;cases o' with
     | pk=>simp only [mpO,Option.some.injEq] at q5;rw [← q5];exact q4
     | box=>simp [mpO] at q5
     | _=>simp [mpO] at q5
    refine ⟨fun j to ti sz L h => ?_,fun j j' to ti sz to' ti' sz' L L' h h' hne b hb hb' => ?_⟩
    ·obtain ⟨i,q3,q4⟩:=pk _ _ _ _ _ h
     obtain ⟨p,p0,p1⟩:=hD.2.2.1 _ _ _ _ _ q4;obtain ⟨r1,r2⟩:=hi j i q3;refine ⟨p.move (r1.trans p.io) r2 (fun _ h=>h) (fun _ _=>rfl) fun b hb=>⟨rfl,(p.own b hb).1,fun j2 o2 ho hl => ?_⟩,fun o ho => ?_,by rw [r2];exact p1⟩
     ·obtain ⟨i2,o3,s1,s2,s3⟩:=lv j2 o2 ho hl
      rw [(hi _ _ s1).1];exact (p.own b hb).2 i2 o3 s2 s3
     ·have:=(small j o ho).1
      rw [this] at q3;cases q3
      exact p0 o ho
    ·obtain ⟨i,q3,q4⟩:=pk _ _ _ _ _ h
     obtain ⟨i',q3',q4'⟩:=pk _ _ _ _ _ h';rw [(hi j i q3).2] at hb
     rw [(hi j' i' q3').2] at hb'
     refine hD.2.2.2 _ _ _ _ _ _ _ _ _ _ q4 q4' (fun e=>hne ?_) b hb hb'
     subst e;exact aVc hd q3 q3'
  ·cases hp
 ·cases hp

def aGi:List Nat→St→Option St
 | [],st=>some st
 | i::r,st=>match fz1 i st with
  | some st'=>aGi r st'
  | none=>match fzP i st with
   | some st'=>aGi r st'
   | none=>match fzM i st with
    | some st'=>aGi r st'
    | none=>none
def nlC(id off ty:Nat)(st:St):Option St:=match st.m[id]? with
 | some (some (.box bty cs))=>match cs[off]? with
  | some (.p (.v (.slice none 0 0)))=>match Nat.beq ty 99999 with
   | true=>some ⟨st.t,aZ st.m id (some (.box bty (cs.set off (.p (.sl 0 [])))))⟩
   | false=>match fK st.m st.m.length with
    | true=>some ⟨st.t,aZ (aZ st.m st.m.length (some (.row ty 0 []))) id (some (.box bty (cs.set off (.own st.m.length))))⟩
    | false=>none
  | some (.kb b)=>some ⟨st.t,aZ st.m id (some (.box bty (cs.set off (.p (.v (.bool b))))))⟩
  | _=>none
 | _=>none
def nlS(i ty:Nat)(st:St):Option St:=match st.t[i]? with
 | some (.p (.v (.slice none 0 0)))=>match Nat.beq ty 99999 with
  | true=>some ⟨st.t.set i (.p (.sl 0 [])),st.m⟩
  | false=>match fK st.m st.m.length with
   | true=>some ⟨st.t.set i (.own st.m.length),aZ st.m st.m.length (some (.row ty 0 []))⟩
   | false=>none
 | some (.kb b)=>some ⟨st.t.set i (.p (.v (.bool b))),st.m⟩
 | _=>none
def nl1(i ty:Nat)(st:St):Option St:=match Nat.ble 100000 i with
 | true=>nlC ((i-100000) / 1000) ((i-100000) % 1000) ty st
 | false=>match Nat.ble 1000000000 ty with
  | true=>nlP i ((ty-1000000000) / 1000000) ((ty-1000000000) / 100 % 10000) ((ty-1000000000) % 100) st
  | false=>nlS i ty st
def aVd:List (Nat × Nat)→St→Option St
 | [],st=>some st
 | (i,ty)::r,st=>match nl1 i ty st with
  | some st'=>aVd r st'
  | none=>none
def gh(k:Nat)(g:Gh)(st:St):Option St:=match aGi g.fz st with
 | some st1=>match aVd g.nl st1 with
  | some st2=>pick k g.ids ⟨forget g.fg st2.t,st2.m⟩
  | none=>none
 | none=>none
theorem aBu(hM:aR P C M w){id bty off:Nat}{cs:List AV}{x:AV}(hb:M[id]? = some (some (.box bty cs)))(hoff:off<cs.length)
  (hx:∀ u,Rep C M w cs[off] u→Rep C (aZ M id (some (.box bty (cs.set off x)))) w x u):aR P C (aZ M id (some (.box bty (cs.set off x)))) w∧Fr C M w C (aZ M id (some (.box bty (cs.set off x)))) w:=by
 have hold:∀ (i:Nat) (o:AO),i≠id→(aZ M id (some (.box bty (cs.set off x))))[i]? = some (some o)→M[i]? = some (some o):=fun i o h=>(aQ M id i _ o (fun e=>h e.symm)).1
 have hnew:∀ (o:AO),(aZ M id (some (.box bty (cs.set off x))))[id]? = some (some o)→o = .box bty (cs.set off x):=fun o h=>by rw [aY] at h;cases h;rfl
 have hliv:∀ (i:Nat) (o:AO),(aZ M id (some (.box bty (cs.set off x))))[i]? = some (some o)→o.live=true→∃ o1,M[i]? = some (some o1)∧o1.live=true:=fun i o h hl=>by
  by_cases e:i=id
  ·subst e;exact ⟨_,hb,rfl⟩
  ·exact ⟨o,hold i o e h,hl⟩
 have f:Fr C M w C (aZ M id (some (.box bty (cs.set off x)))) w:=by
  refine ⟨rfl,rfl,rfl,dM _,fun _ _ _=>rfl,fun i o h=>⟨?_,rfl,rfl⟩,fun i o h ty n cs2 hm => ?_,fun i o h o' h' hl => ?_,fun i o b h hl hbb => ?_,fun b h=>h,fun b h => .inl h⟩
  ·by_cases e:i=id
   ·subst e;exact ⟨_,aY ..⟩
   ·exact ⟨o,(aQ M id i _ o (fun e'=>e e'.symm)).2 h⟩
  ·by_cases e:i=id
   ·subst e;cases hnew _ hm
   ·exact ⟨cs2,hold i _ e hm⟩
  ·obtain ⟨o1,q1,q2⟩:=hliv i o' h' hl
   rw [h] at q1;cases q1;exact q2
  ·obtain ⟨o1,q1,q2⟩:=hliv i o h hl
   exact .inr ⟨i,o1,q1,q2,hbb⟩
 have hL:=hM.le f;refine ⟨⟨fun i ty n cs2 hm => ?_,fun i ty cs2 hm => ?_,fun i es cl hm => ?_,fun i i' o1 o2 b hm hl hm' hl' h1 h2 => ?_,fun i o b hm hl hbb => ?_,hM.Fs,fun i o b hm hl hbb => ?_⟩,f⟩
 ·by_cases e:i=id
  ·subst e;cases hnew _ hm
  ·exact hM.row _ _ _ _ (hold i _ e hm)
 ·by_cases e:i=id
  ·subst e
   cases hnew _ hm;obtain ⟨b,arr,q0,q1,q2,q3,q4⟩:=hM.box _ _ _ hb;refine ⟨b,arr,q0,q1,by simpa using q2,fun j hj => ?_,fun j hj=>q4 j (by simpa using hj)⟩
   rw [xU]
   split
   ·rename_i e2;subst e2;exact hx _ (q3 _ hoff)
   ·exact (q3 j (by simpa using hj)).mono hL
  ·obtain ⟨b,arr,q0,q1,q2,q3,q4⟩:=hM.box _ _ _ (hold i _ e hm)
   exact ⟨b,arr,q0,q1,q2,fun j hj=>(q3 j hj).mono hL,q4⟩
 ·by_cases e:i=id
  ·subst e;cases hnew _ hm
  ·obtain ⟨b,arr,q0,q1,q2,q3⟩:=hM.mp _ _ _ (hold i _ e hm)
   refine ⟨b,arr,q0,q1,q2,fun j hj => ?_⟩
   obtain ⟨en,r1,r2,r3,r4⟩:=q3 j hj;exact ⟨en,r1,r2,r3,r4.mono hL.F hL.fz⟩
 ·obtain ⟨x1,y1,z1⟩:=hliv i o1 hm hl
  obtain ⟨x2,y2,z2⟩:=hliv i' o2 hm' hl';exact hM.inj _ _ _ _ _ y1 z1 y2 z2 h1 h2
 ·obtain ⟨x1,y1,z1⟩:=hliv i o hm hl
  exact hM.nF _ _ _ y1 z1 hbb
 ·obtain ⟨x1,y1,z1⟩:=hliv i o hm hl
  exact hM.lt _ _ _ y1 z1 hbb
theorem aXu{id off ty:Nat}{st st':St}{a:Act}(h:nlC id off ty st=some st')(hs:Sim P C0 M0 w0 st a w):Sim P C0 M0 w0 st' a w:=by
 obtain ⟨C,hS,hM,hF,hD⟩:=hs;unfold nlC at h
 split at h
 ·rename_i bty cs hi
  split at h
  ·rename_i hc
   split at h
   ·cases h
    obtain ⟨hoff,hcv⟩:=kQ3.1 hc;obtain ⟨hM2,f2⟩:=aBu hM hi hoff (x := .p (.sl 0 [])) (fun u hu=>by
     rw [hcv] at hu
     cases hu with
     | p _ _ h =>
      cases h;exact .p _ _ (.sl 0 [] none 0 (fun _=>undef) (dM _) (Nat.zero_le _) (fun i hi=>by simp at hi) (fun i hi=>by simp at hi) (fun i hi=>by simp at hi)))
    exact ⟨C,hS.le (hM.le f2),hM2,hF.trans f2,hD.fr hM (gP rfl) f2⟩
   ·split at h
    ·rename_i hb
     cases h;have hf:=cP hb;have f:=wF (C:=C) (w:=w) (ty:=ty) hf;have hM1:=wG (ty:=ty) hM hf;have hne:id≠st.m.length:=fun e=>hf _ (e ▸ hi)
     have hi1:(aZ st.m st.m.length (some (.row ty 0 [])))[id]? = some (some (.box bty cs)):=(aQ st.m st.m.length id _ _ (fun e=>hne e.symm)).2 hi
     obtain ⟨hoff,hcv⟩:=kQ3.1 hc;have hnw:(aZ (aZ st.m st.m.length (some (.row ty 0 []))) id (some (.box bty (cs.set off (.own st.m.length)))))[st.m.length]? = some (some (.row ty 0 [])):=(aQ _ id st.m.length _ _ hne).2 (aY ..);obtain ⟨hM2,f2⟩:=aBu hM1 hi1 hoff (x := .own st.m.length) (fun u hu=>by
      rw [hcv] at hu
      cases hu with
      | p _ _ h =>
       cases h;exact .own _ _ rfl ⟨_,hnw⟩ fun ty n cs h=>by rw [hnw] at h;cases h;exact .inl ⟨rfl,by simp [Cx.nil],rfl⟩)
     exact ⟨C.nil st.m.length,(hS.le (hM.le f)).le (hM1.le f2),hM2,(hF.trans f).trans f2,hD.fr hM ((gP rfl).trans (gP rfl)) (f.trans f2)⟩
    ·cases h
  ·rename_i b hc
   cases h;obtain ⟨hoff,hcv⟩:=kQ3.1 hc;obtain ⟨hM2,f2⟩:=aBu hM hi hoff (x := .p (.v (.bool b))) (fun u hu=>by
    rw [hcv] at hu
    cases hu;exact .p _ _ (.v _))
   exact ⟨C,hS.le (hM.le f2),hM2,hF.trans f2,hD.fr hM (gP rfl) f2⟩
  ·cases h
 ·cases h
theorem aXv{i ty:Nat}{st st':St}{a:Act}(h:nlS i ty st=some st')(hs:Sim P C0 M0 w0 st a w):Sim P C0 M0 w0 st' a w:=by
 obtain ⟨C,hS,hM,hF,hD⟩:=hs;unfold nlS at h
 split at h
 ·rename_i hi
  split at h
  ·cases h
   refine ⟨C,⟨by simpa using hS.size,fun j hj => ?_⟩,hM,hF,hD⟩
   simp only [vA] at hj
   rw [xU]
   split
   ·rename_i e
    subst e;have hr:=hS.at hi
    generalize a.tmps.getD i undef=u at hr ⊢
    cases hr with
    | p _ _ h =>
     cases h;exact .p _ _ (.sl 0 [] none 0 (fun _=>undef) (dM _) (Nat.zero_le _) (fun i hi=>by simp at hi) (fun i hi=>by simp at hi) (fun i hi=>by simp at hi))
   ·exact hS.rep j hj
  ·split at h
   ·rename_i hb
    cases h;have hf:=cP hb;have f:=wF (C:=C) (w:=w) (ty:=ty) hf;have hL:=hM.le f;refine ⟨C.nil st.m.length,⟨by simpa using hS.size,fun j hj => ?_⟩,wG hM hf,hF.trans f,hD.fr hM (gP rfl) f⟩
    simp only [vA] at hj
    rw [xU]
    split
    ·rename_i e
     subst e;have hr:=hS.at hi
     generalize a.tmps.getD i undef=u at hr ⊢
     cases hr with
     | p _ _ h =>
      cases h;exact .own _ _ rfl ⟨_,aY ..⟩ fun ty n cs h=>by rw [aY] at h;cases h;exact .inl ⟨rfl,by simp [Cx.nil],rfl⟩
    ·exact (hS.rep j hj).mono hL
   ·cases h
 ·rename_i b hi
  cases h;refine ⟨C,⟨by simpa using hS.size,fun j hj => ?_⟩,hM,hF,hD⟩
  simp only [vA] at hj
  rw [xU]
  split
  ·rename_i e
   subst e;have hr:=hS.at hi
   generalize a.tmps.getD i undef=u at hr ⊢
   cases hr;exact .p _ _ (.v _)
  ·exact hS.rep j hj
 ·cases h
theorem aXw{i ty:Nat}{st st':St}{a:Act}(h:nl1 i ty st=some st')(hs:Sim P C0 M0 w0 st a w):Sim P C0 M0 w0 st' a w:=by
 unfold nl1 at h
 split at h
 ·exact aXu h hs
 ·split at h
  ·exact aYb h hs
  ·exact aXv h hs
theorem zE:∀ (l:List (Nat × Nat)) {st st':St} {a:Act},aVd l st=some st'→Sim P C0 M0 w0 st a w→Sim P C0 M0 w0 st' a w
 | [],st,st',a,h,hs=>by cases h;exact hs
 | (i,ty)::r,st,st',a,h,hs=>by
  unfold aVd at h
  split at h
  ·rename_i h1
   exact zE r h (aXw h1 hs)
  ·cases h
theorem nJ:∀ (l:List Nat) {st st':St} {a:Act},aGi l st=some st'→Sim P C0 M0 w0 st a w→Sim P C0 M0 w0 st' a w
 | [],st,st',a,h,hs=>by cases h;exact hs
 | i::r,st,st',a,h,hs=>by
  unfold aGi at h
  split at h
  ·rename_i h1
   exact nJ r h (aYc h1 hs)
  ·split at h
   ·rename_i h1
    exact nJ r h (aYa h1 hs)
   ·split at h
    ·rename_i h1
     exact nJ r h (aXz h1 hs)
    ·cases h
theorem eQ{k:Nat}{g:Gh}{st st':St}{a:Act}(hk:M0.length≤k)(h:gh k g st=some st')(hs:Sim P C0 M0 w0 st a w):Sim P C0 M0 w0 st' a w:=by
 unfold gh at h
 split at h
 ·rename_i h1
  split at h
  ·rename_i h2
   exact aPs hk h (aIl g.fg (zE _ h2 (nJ _ h1 hs)))
  ·cases h
 ·cases h
end
section
variable {P:Program} {T:TT} {E:Env} {C C0:Cx} {M M0:Mem} {w w0:World}

theorem bGh(hM:aR P C M w){w1:World}(hw:w1.heap=w.heap):aR P C M w1∧Le C C M M w w1:=by
 have hL:Le C C M M w w1:=⟨fun _ o h=>⟨o,h⟩,fun _ _ _ _ _ cs h=>⟨cs,h⟩,fun _ o h o' h' hl=>by rw [h] at h';cases h';exact ⟨hl,rfl,rfl⟩,fun _ h=>h,fun _ _=>by rw [hw]⟩
 have hsz:w1.heap.size=w.heap.size:=by rw [hw]
 refine ⟨⟨fun i ty' n cs hm => ?_,fun i ty' cs hm => ?_,fun i es cl hm => ?_,hM.inj,hM.nF,fun b hb=>by rw [hsz];exact hM.Fs b hb,fun i x b hm hl hb=>by rw [hsz];exact hM.lt i x b hm hl hb⟩,hL⟩
 ·rcases hM.row _ _ _ _ hm with h4 | ⟨b,arr,inf,q0,q1,q2,q3,q4,q5,q6,q7,q8⟩
  ·exact .inl h4
  ·exact .inr ⟨b,arr,inf,q0,by rw [hw];exact q1,q2,q3,q4,q5,q6,fun j hj=>(q7 j hj).mono hL.F hL.fz,q8⟩
 ·obtain ⟨b,arr,q0,q1,q2,q3,q4⟩:=hM.box _ _ _ hm
  exact ⟨b,arr,q0,by rw [hw];exact q1,q2,fun j hj=>(q3 j hj).mono hL,q4⟩
 ·obtain ⟨b,arr,q0,q1,q2,q3⟩:=hM.mp _ _ _ hm
  refine ⟨b,arr,q0,by rw [hw];exact q1,q2,fun j hj => ?_⟩
  obtain ⟨en,r1,r2,r3,r4⟩:=q3 j hj;exact ⟨en,r1,r2,r3,r4.mono hL.F hL.fz⟩
theorem aVb{w1:World}(hw:w1.heap=w.heap)(ho:w1.os=w.os)(ht:w1.tape=w.tape)(hu:w1.output=w.output):Fr C M w C M w1 :=
 ⟨ho,ht,hu,by rw [hw];exact dM _,fun b _ _=>by rw [hw],fun _ x h=>⟨⟨x,h⟩,rfl,rfl⟩,fun _ _ _ _ _ cs h=>⟨cs,h⟩,fun _ o h o' h' hl=>by rw [h] at h';cases h';exact hl,fun i x _ h hl hb => .inr ⟨i,x,h,hl,hb⟩,fun _ h=>h,fun _ h => .inl h⟩

theorem Sim.drawn{st:St}{a:Act}(h:Sim P C0 M0 w0 st a w)(k:Nat):Sim P C0 M0 w0 st a { w with drawn:=k }:=by
 obtain ⟨C,hS,hM,hF,hD⟩:=h;obtain ⟨m,l⟩:=bGh hM (w1:={ w with drawn:=k }) rfl
 exact ⟨C,hS.le l,m,hF.trans (aVb rfl rfl rfl rfl),hD.fr hM .refl (aVb rfl rfl rfl rfl)⟩

def bMh(ops:Array Oper)(k:Nat)(o:Oper):List Oper→Bool
 | []=>true
 | y::r=>(o.apart ops y || y.after.toList.any fun e=>Region.binds .any e && e.on == k) && bMh ops k o r
def bMi(ops:Array Oper):Nat→List Oper→Bool
 | _,[]=>true
 | k,o::r=>(o.after.toList.all fun e => !Region.binds .any e || Nat.blt e.on k) && bMh ops k o r && bMi ops (k+1) r
def bSu(ops:Array Oper):Bool:=Region.noSelect ops && bMi ops 0 ops.toList
theorem aGe{ops:Array Oper}{k:Nat}{o:Oper}:∀ {r:List Oper},bMh ops k o r=true→∀ y∈r,(y.after.any fun e=>Region.binds .any e && e.on == k)=true∨o.apart ops y=true
 | [],_,y,hy=>by cases hy
 | z::r,h,y,hy=>by
  unfold bMh at h
  rw [kQ7,xV] at h
  rcases jH.1 hy with rfl | hy
  ·rcases h.1 with h1 | h1
   ·exact .inr h1
   ·rw [Array.any_toList] at h1;exact .inl h1
  ·exact aGe h.2 y hy
theorem aGf{ops:Array Oper}:∀ (r:List Oper) (k:Nat) (listed:Array Bool),ops.toList.drop k=r→k+r.length=ops.size→listed.size=ops.size→(∀ j,j<ops.size→listed[j]? = some (decide (j<k))) →
  bMi ops k r=true→Region.lexFrom .any ops r.length k listed=true
 | [],k,listed,hd,hk,hz,hl,h=>by
  show (Region.ready .any ops listed).isEmpty=true;unfold Region.ready;rw [List.isEmpty_iff,List.filter_eq_nil_iff];intro i hi;have hi:=lH.1 hi;have h1:listed.getD i true=true:=by
   rw [kQ2,hl i hi];have:k=ops.size:=by simpa using hk
   simp;omega
  rw [h1];simp
 | o::r,k,listed,hd,hk,hz,hl,h=>by
  unfold bMi at h
  rw [kQ7,kQ7] at h
  obtain ⟨⟨h1,h2⟩,h3⟩:=h;rw [qZ] at hk
  have hko:ops[k]? = some o:=by
   have:(ops.toList.drop k)[0]? = some o:=by rw [hd];rfl
   rw [List.getElem?_drop] at this
   simpa using this
  have hdr:ops.toList.drop (k+1)=r:=by
   have:=congrArg List.tail hd;rw [List.tail_drop] at this
   exact this
  have hlk:listed.getD k true=false:=by
   rw [kQ2,hl k (by omega)];simp
  show ((Region.ready .any ops listed).contains k && Region.free .any ops listed k && Region.lexFrom .any ops r.length (k+1) (listed.setIfInBounds k true))=true;rw [kQ7,kQ7];refine ⟨⟨?_,?_⟩,?_⟩
  ·rw [List.contains_iff_mem]
   unfold Region.ready;rw [nA];refine ⟨lH.2 (by omega),?_⟩
   rw [hlk,hko];show (!false && o.after.all fun e => !Region.binds .any e || listed.getD e.on false)=true
   rw [Bool.not_false,hZ,← Array.all_toList,gA];intro e he;have:=gA.1 h1 e he;rw [xV] at this ⊢
   rcases this with q | q
   ·exact .inl q
   ·have q:e.on<k:=by simpa using q
    refine .inr ?_;rw [kQ2,hl e.on (by omega)]
    simp [q]
  ·unfold Region.free
   rw [hko];show ((List.range ops.size).all _)=true;rw [gA];intro j hj;have hj:=lH.1 hj
   rcases Nat.lt_trichotomy j k with q | q | q
   ·have:listed.getD j true=true:=by rw [kQ2,hl j hj];simp [q]
    rw [this];simp
   ·subst q;simp
   ·obtain ⟨y,hy⟩:∃ y,ops[j]? = some y:=⟨_,qY hj⟩
    rw [hy];have hm:y∈r:=by
     rw [← hdr];have:(ops.toList.drop (k+1))[j-(k+1)]? = some y:=by
      rw [List.getElem?_drop,show k+1+(j-(k+1))=j by omega]
      simpa using hy
     exact kQ5 this
    have:=aGe h2 y hm;show (j == k || listed.getD j true || ((y.after.any fun e=>Region.binds .any e && e.on == k) || o.apart ops y))=true
    rw [xV,xV (_) (o.apart ops y)];exact .inr this
  ·refine aGf r (k+1) _ hdr (by omega) (by rw [Array.size_setIfInBounds];exact hz) (fun j hj => ?_) h3
   rw [Array.getElem?_setIfInBounds]
   by_cases q:k=j
   ·subst q
    rw [if_pos rfl,if_pos (by omega)];simp
   ·rw [if_neg q,hl j hj]
    congr 1
    rw [decide_eq_decide];omega
theorem xK{ops:Array Oper}(h:bSu ops=true):Region.lexB .any ops=true:=by
 unfold bSu at h
 rw [kQ7] at h
 unfold Region.lexB;rw [kQ7];refine ⟨h.1,?_⟩;have:=aGf ops.toList 0 (Array.replicate ops.size false) rfl (by simp) (by simp) (fun j hj=>by simp [hj]) h.2
 simpa using this
def aLt(P:Program)(T:TT)(E:Env)(ops:Array Oper)(draw:Bool)(st:St):Ask St:=match draw with
 | false=>aYt P T E ops.toList ops.toList st
 | true=>do
  lift (if bSu ops then some () else none)
  let r ← aPu P T E ops.toList ops.toList st.m.length st
  lift (if aIn ops 0 r.1 then some () else none)
  pure r.2

def Ex.toExit:Ex→Exit
 | .normal => .normal
 | .ret => .ret
 | .exit id => .exit id

def aGg(body:St→Ask (Ex × St)):Nat→St→Ask (Ex × St)
 | 0,_=>fail
 | n+1,st=>do
  let r ← body st
  match r.1 with
  | .normal=>aGg body n r.2
  | e=>pure (e,r.2)

def bMj:Op→Bool
 | .makeMap _ _=>true
 | .lookup _ _ _ _=>true
 | .mapUpdate _ _ _ _=>true
 | _=>false
def nrf:Code→Bool
 | .region _ ops _=>ops.toList.all fun o => !bMj o.op
 | .seq a b=>nrf a && nrf b
 | .cond _ a b=>nrf a && nrf b
 | .block _ b=>nrf b
 | .loop b=>nrf b
 | .scope b=>nrf b
 | .rangeFunc _ _ _ _=>false
 | _=>true
def lO(ro:Option Nat)(c:Code):Prop:=ro=none∨nrf c=true
section
variable {ro:Option Nat} {a b:Code} {x:Operand} {id:Nat}
theorem lO.seq1(h:lO ro (.seq a b)):lO ro a:=h.imp (fun h=>h) fun h=>by unfold nrf at h;rw [kQ7] at h;exact h.1
theorem lO.seq2(h:lO ro (.seq a b)):lO ro b:=h.imp (fun h=>h) fun h=>by unfold nrf at h;rw [kQ7] at h;exact h.2
theorem lO.cond1(h:lO ro (.cond x a b)):lO ro a:=h.imp (fun h=>h) fun h=>by unfold nrf at h;rw [kQ7] at h;exact h.1
theorem lO.cond2(h:lO ro (.cond x a b)):lO ro b:=h.imp (fun h=>h) fun h=>by unfold nrf at h;rw [kQ7] at h;exact h.2
theorem lO.block(h:lO ro (.block id b)):lO ro b:=h
theorem lO.loop(h:lO ro (.loop b)):lO ro b:=h
theorem lO.scope(h:lO ro (.scope b)):lO ro b:=h
end

def aC(P:Program)(k:Nat)(c:Code)(st:St)(e:Ex)(st':St):Prop:=∀ (C0:Cx) (M0:Mem) (w0:World) (a:Act) (w:World),M0.length≤k→Sim P C0 M0 w0 st a w→∀ (ro:Option Nat),lO ro c→∀ (n:Nat),c.wpIn (Fen ro) n P (fun e' a' w'=>e'=e.toExit∧Sim P C0 M0 w0 st' a' w') a w

def aFf(P:Program)(k:Nat)(c:Code)(m:St→Ask (Ex × St))(st:St):Ask (Ex × St):=fun s=>match s.auto with
 | true=>m st s
 | false=>match s.o with
  | .k 0 g e st'::r=>match gh k g st with
   | some st1=>some ((e,st'),{ s with o:=r,obs:=aC P k c st1 e st'::s.obs })
   | none=>none
  | .k (n+1) g e st'::r=>m st { s with o := .k n g e st'::r }
  | .g 0 g::r=>match gh k g st with
   | some st1=>m st1 { s with o:=r }
   | none=>none
  | .g (n+1) g::r=>m st { s with o := .g n g::r }
  | _=>m st s
def rB{α:Type}(m:Ask α):Ask α:=fun s=>match s.auto with
 | true=>m s
 | false=>none

def aAc(P:Program)(T:TT)(E:Env)(k fuel:Nat):Code→St→Ask (Ex × St)
 | .skip,st=>pure (.normal,st)
 | .region id ops d,st=>aFf P k (.region id ops d) (fun st=>do let st' ← aLt P T E ops d st;pure (.normal,st')) st
 | .seq a b,st=>aFf P k (.seq a b) (fun st=>do
  let r ← aAc P T E k fuel a st
  match r.1 with
  | .normal=>aAc P T E k fuel b r.2
  | e=>pure (e,r.2)) st
 | .cond c a b,st=>aFf P k (.cond c a b) (fun st=>do
  let x ← lift (ev st c)
  let d ← aQx x
  match d with
  | true=>aAc P T E k fuel a st
  | false=>aAc P T E k fuel b st) st
 | .block id b,st=>aFf P k (.block id b) (fun st=>do
  let r ← aAc P T E k fuel b st
  match r.1 with
  | .exit i=>match Nat.beq i id with
   | true=>pure (.normal,r.2)
   | false=>pure (.exit i,r.2)
  | e=>pure (e,r.2)) st
 | .loop b,st=>aFf P k (.loop b) (fun st=>rB (aGg (fun st=>aAc P T E k fuel b st) fuel st)) st
 | .exit id,st=>pure (.exit id,st)
 | .label _,st=>pure (.normal,st)
 | .scope b,st=>aAc P T E k fuel b st
 | .ret,st=>pure (.ret,st)
 | c,st=>aFf P k c (fun _=>fail) st

theorem aC.pre{k:Nat}{c:Code}{st st1 st':St}{e:Ex}{g:Gh}(hg:gh k g st=some st1)(h:aC P k c st1 e st'):aC P k c st e st':=fun C0 M0 w0 a w hk hs ro hro n=>h C0 M0 w0 a w hk (eQ hk hg hs) ro hro n
theorem aC.post{k:Nat}{c:Code}{st st1 st':St}{e:Ex}{g:Gh}(hg:gh k g st1=some st')(h:aC P k c st e st1):aC P k c st e st':=fun C0 M0 w0 a w hk hs ro hro n=>wpIn_mono (h C0 M0 w0 a w hk hs ro hro n) (fun _ _ _ hq=>⟨hq.1,eQ hk hg hq.2⟩)
theorem kO{k:Nat}{c:Code}{m:St→Ask (Ex × St)}(hm:∀ {st st':St} {e:Ex} {s s':AS},m st s=some ((e,st'),s')→bB s'→aC P k c st e st'){st st':St}{e:Ex}{s s':AS}(h:aFf P k c m st s=some ((e,st'),s'))(g:bB s'):aC P k c st e st':=by
 unfold aFf at h
 cases ha:s.auto with
 | true=>rw [ha] at h;exact hm h g
 | false =>
  rw [ha] at h
  dsimp only at h
  split at h
  ·split at h
   ·rename_i hg
    cases h;exact (g.tail.1).pre hg
   ·cases h
  ·exact hm h g
  ·split at h
   ·rename_i hg
    exact (hm h g).pre hg
   ·cases h
  ·exact hm h g
  ·exact hm h g
theorem mP{k:Nat}{c:Code}{m:St→Ask (Ex × St)}(hm:∀ st,cD (m st))(st:St):cD (aFf P k c m st):=fun s r s' h p hp=>by
 unfold aFf at h
 cases ha:s.auto with
 | true=>rw [ha] at h;exact hm _ _ _ _ h p hp
 | false =>
  rw [ha] at h
  dsimp only at h
  split at h
  ·split at h
   ·cases h;exact kQ6 _ hp
   ·cases h
  ·exact hm _ _ _ _ h p hp
  ·split at h
   ·exact hm _ _ _ _ h p hp
   ·cases h
  ·exact hm _ _ _ _ h p hp
  ·exact hm _ _ _ _ h p hp
theorem aXs{α:Type}{m:Ask α}(hm:cD m):cD (rB m):=fun s r s' h p hp=>by
 unfold rB at h
 split at h
 ·exact hm _ _ _ h p hp
 ·cases h
theorem bGi{α:Type}{m:Ask α}{s s':AS}{r:α}(h:rB m s=some (r,s')):m s=some (r,s'):=by
 unfold rB at h
 split at h
 ·exact h
 ·cases h

theorem aPq(hT:∀ t i,T t=some i→cJ P t=some i)(hE:mE P E)(hm:P.follows .mixedOrders=true){id:Nat}{ops:Array Oper}{d:Bool}{st st':St}{s s':AS}(h:aLt P T E ops d st s=some (st',s'))(g:bB s'){k:Nat}:aC P k (.region id ops d) st .normal st':=by
 intro C0 M0 w0 a w _ hs ro hro n;cases d with
 | false =>
  refine wpIn_region ?_;have:=uQ hT hE ops.toList 0 (fun j=>by simp) h g C0 M0 w0 a w hs ro n (fun e' a' w'=>e'=Ex.normal.toExit∧Sim P C0 M0 w0 st' a' w') (fun a' w' h'=>⟨rfl,h'⟩)
  simpa using this
 | true =>
  obtain ⟨_,s1,h1,k1⟩:=aD h;obtain ⟨e1,rfl⟩:=aG h1;obtain ⟨r,s2,h2,k2⟩:=aD k1;obtain ⟨_,s3,h3,k3⟩:=aD k2;obtain ⟨e3,rfl⟩:=aG h3;obtain ⟨rfl,rfl⟩:=aJ k3;obtain ⟨hB,_⟩:=bP e1;obtain ⟨hA,_⟩:=bP e3;obtain ⟨os,hfts,hlex⟩:=rE ops.toList _ (fts:=r.1) (fin:=r.2) h2 g
  replace hB:=xK hB
  unfold Region.lexB at hB
  rw [kQ7] at hB
  have hlen:os.length=ops.toList.length:=by
   have:∀ {l:List Oper} {id:Nat} {st:St} {os:List vT} {fin:St},aLu P T E ops.toList id l st os fin→os.length=l.length:=by
    intro l
    induction l with
    | nil=>intro id st os fin h;cases h;rfl
    | cons o l ih=>intro id st os fin h;cases h with | cons _ _ _ _ q os _ h hr=>simp [ih hr]
   exact this hlex
  have key:oX P T E ops.toList st.m.length (fun k=>os.getD k (.any,[],none)) r.2 ops.toList.length (Array.replicate ops.size false) st:=by
   refine oX.lex ops.toList 0 _ st os (fun j=>by simp) (fun j q hj=>by simp [kQ4,hj]) (fun j hj=>absurd hj (aRg _)) (fun j oj hj hl => ?_) (fun i j _ hij hj => ?_) (by simpa using hB.2) (by simpa [ido] using hlex)
   ·exfalso
    rcases Nat.lt_or_ge j ops.size with h' | h'
    ·simp [h'] at hl
    ·simp [Nat.not_lt.2 h'] at hl
   have hj2:j<os.length:=by
    rw [hlen];obtain ⟨o,ho⟩:=Option.isSome_iff_exists.1 hj;exact (kQ3.1 ho).1
   have:=nK r.1 0 hA i j (aBv os[i]) (aBv os[j]) hij (by rw [hfts,jA,kQ0 (by omega)];rfl) (by rw [hfts,jA,kQ0 hj2];rfl)
   rw [gN,gN] at this
   simp only [kQ4,kQ0 hj2,kQ0 (show i<os.length by omega),Option.getD_some,Array.toArray_toList]
   exact this
  refine wpIn_region_any hm ?_;have:=oX.sound hT hE (C0:=C0) (M0:=M0) (w0:=w0) (ro:=ro) (n:=n) (Q:=fun e' a' w'=>e'=Ex.normal.toExit∧Sim P C0 M0 w0 r.2 a' w') (fun a' w' h'=>⟨rfl,h'⟩) _ _ _ a _ key (hs.drawn (w.drawn+1))
  simpa using this

theorem jM{b:Frame}{a:Act}{k:List Item}{cs:List Frame}{c:Code}:step P (lone (b.atR a (.code (.scope c)::k)) cs w) = .next (lone (b.atR a (.code c :: .inScope c::k)) cs w) :=
 step_lone_go (by simp [stepG,stepG.exec,Frame.atR])
theorem aFg{b:Frame}{a:Act}{k:List Item}{cs:List Frame}{c:Code}:step P (lone (b.atR a (.inScope c::k)) cs w) = .next (lone (b.atR a k) cs w) :=
 step_lone_go (by simp [stepG,stepG.exec,Frame.atR])
theorem aPr{F:Fence}{n:Nat}{c:Code}{Q:Exit→Act→World→Prop}{a:Act}(h:c.wpIn F n P (fun e a w=>(∀ l,e ≠ .goto l)∧Q e a w) a w):(Code.scope c).wpIn F n P Q a w:=by
 intro b k cs hro hb hr;have h0:(lone (b.atR a (.code (.scope c)::k)) cs w).fenced P F:=fenced_calm hb hr rfl;obtain ⟨e,a₁,w₁,⟨hg,hq⟩,harr⟩:=h b (.inScope c::k) cs hro hb hr;cases e with
 | normal=>exact ⟨.normal,a₁,w₁,hq,.head h0 jM (StepsIn.trans harr (.one (fenced_calm hb hr rfl) aFg))⟩
 | exit id =>
  have hx:exitTo id (.inScope c::k)=exitTo id k:=by simp [exitTo]
  exact ⟨.exit id,a₁,w₁,hq,fun k' hk => .head h0 jM (harr.1 k' (by rw [hx];exact hk)),
   fun hr' hk=>let ⟨k₁,h1,h2⟩:=harr.2 hr' (by rw [hx];exact hk);⟨k₁,h1,.head h0 jM h2⟩⟩
 | goto l=>exact absurd rfl (hg l)
 | ret=>exact ⟨_,a₁,w₁,hq,.of_steps (.one h0 jM) harr⟩
 | panic ch=>exact ⟨_,a₁,w₁,hq,.of_steps (.one h0 jM) harr⟩
 | outgrown=>exact ⟨_,a₁,w₁,hq,.of_steps (.one h0 jM) harr⟩

def LoopIn(F:Fence)(n:Nat)(P:Program)(c:Code)(Q:Exit→Act→World→Prop)(a:Act)(w:World):Prop :=
 ∀ (b:Frame) (k:List Item) (cs:List Frame),b.roundOf=F.round→F.fn b.fn→F.room (cs.length+1+n) →
  ∃ e a' w',Q e a' w'∧ArrivesIn (Machine.fenced P F) P (lone (b.atR a (.code c :: .inLoop c::k)) cs w) b k cs e a' w'

theorem LoopIn.step{F:Fence}{n:Nat}{c:Code}{Q:Exit→Act→World→Prop}{a:Act}(h:c.wpIn F n P (Exit.then (LoopIn F n P c Q) Q) a w):LoopIn F n P c Q a w:=by
 intro b k cs hro hb hr;obtain ⟨e,a₁,w₁,hq,harr⟩:=h b (.inLoop c::k) cs hro hb hr;cases e with
 | normal =>
  obtain ⟨e₂,a₂,w₂,hq₂,harr₂⟩:=hq b k cs hro hb hr;exact ⟨e₂,a₂,w₂,hq₂,.of_steps (StepsIn.trans harr (.one (fenced_calm hb hr rfl) stepR_inLoop)) harr₂⟩
 | exit id=>exact ⟨_,a₁,w₁,hq,.pass (x := .inLoop c) rfl (fun _ _ => .inl (by simp)) harr⟩
 | goto l=>exact ⟨_,a₁,w₁,hq,.pass (x := .inLoop c) rfl (fun _ _ => .inl (by simp)) harr⟩
 | ret=>exact ⟨_,a₁,w₁,hq,.pass (x := .inLoop c) rfl (fun _ _ => .inl (by simp)) harr⟩
 | panic ch=>exact ⟨_,a₁,w₁,hq,.pass (x := .inLoop c) rfl (fun _ _ => .inl (by simp)) harr⟩
 | outgrown=>exact ⟨_,a₁,w₁,hq,.pass (x := .inLoop c) rfl (fun _ _ => .inl (by simp)) harr⟩
theorem LoopIn.wp{F:Fence}{n:Nat}{c:Code}{Q:Exit→Act→World→Prop}{a:Act}(h:LoopIn F n P c Q a w):(Code.loop c).wpIn F n P Q a w:=by
 intro b k cs hro hb hr;obtain ⟨e,a',w',hq,harr⟩:=h b k cs hro hb hr;exact ⟨e,a',w',hq,.of_steps (.one (fenced_calm hb hr rfl) stepR_loop) harr⟩
end
section
variable {P:Program} {T:TT} {E:Env} {C C0:Cx} {M M0:Mem} {w w0:World}

theorem aXr{ops:Array Oper}{d:Bool}{st:St}:cD (aLt P T E ops d st):=by
 unfold aLt;split
 ·exact sY
 ·exact aK fun _=>bD oW fun _=>aK fun _=>aM _
theorem uN{b:St→Ask (Ex × St)}(h:∀ st,cD (b st)):∀ (n:Nat) (st:St),cD (aGg b n st)
 | 0,_=>aU
 | n+1,st=>by
  unfold aGg;refine bD (h st) fun r => ?_
  split
  ·exact uN h n _
  ·exact aM _
theorem sQ{k fuel:Nat}:∀ (c:Code) (st:St),cD (aAc P T E k fuel c st):=by
 intro c
 induction c with
 | skip=>exact fun st=>aM _
 | region id ops d=>exact mP fun st=>bD aXr fun _=>aM _
 | seq a b iha ihb =>
  refine mP fun st => ?_
  refine bD (iha st) fun r => ?_
  split
  ·exact ihb _
  ·exact aM _
 | cond c a b iha ihb =>
  refine mP fun st => ?_
  refine aK fun _=>bD aQg fun _ => ?_
  split
  ·exact iha _
  ·exact ihb _
 | block id b ih =>
  refine mP fun st => ?_
  refine bD (ih st) fun r => ?_
  split
  ·split <;> exact aM _
  ·exact aM _
 | loop b ih=>exact mP fun st=>aXs (uN ih _ _)
 | exit id=>exact fun st=>aM _
 | label l=>exact fun st=>aM _
 | scope b ih=>exact ih
 | ret=>exact fun st=>aM _
 | _=>exact mP fun st=>aU

theorem zD{K:Nat}{c:Code}{b:St→Ask (Ex × St)}(hm:∀ st,cD (b st))(h:∀ {st e st' s s'},b st s=some ((e,st'),s')→bB s'→aC P K c st e st'):∀ (n:Nat) {st:St} {e:Ex} {st':St} {s s':AS},aGg b n st s=some ((e,st'),s')→bB s' →
  ∀ (C0:Cx) (M0:Mem) (w0:World) (a:Act) (w:World),M0.length≤K→Sim P C0 M0 w0 st a w→∀ (ro:Option Nat),lO ro c→∀ (k:Nat),LoopIn (Fen ro) k P c (fun e' a' w'=>e'=e.toExit∧e' ≠ .normal∧Sim P C0 M0 w0 st' a' w') a w
 | 0,st,e,st',s,s',h0,_=>(aW h0).elim
 | n+1,st,e,st',s,s',h0,g=>by
  intro C0 M0 w0 a w hK hs ro hro k;unfold aGg at h0
  obtain ⟨⟨e1,st1⟩,s1,h1,k1⟩:=aD h0;refine LoopIn.step ?_;cases e1 with
  | normal =>
   have g1:=(uN hm n st1).good k1 g;have ih:=zD hm h n k1 g C0 M0 w0;refine wpIn_mono (h h1 g1 C0 M0 w0 a w hK hs ro hro k) ?_;rintro e' a' w' ⟨rfl,hs'⟩;exact ih a' w' hK hs' ro hro k
  | ret =>
   obtain ⟨he,rfl⟩:=aJ k1;cases he;refine wpIn_mono (h h1 g C0 M0 w0 a w hK hs ro hro k) ?_;rintro e' a' w' ⟨rfl,hs'⟩;exact ⟨rfl,nofun,hs'⟩
  | exit id =>
   obtain ⟨he,rfl⟩:=aJ k1;cases he;refine wpIn_mono (h h1 g C0 M0 w0 a w hK hs ro hro k) ?_;rintro e' a' w' ⟨rfl,hs'⟩;exact ⟨rfl,nofun,hs'⟩

theorem aBs(hT:∀ t i,T t=some i→cJ P t=some i)(hE:mE P E)(hm:P.follows .mixedOrders=true){k fuel:Nat}:∀ (c:Code) {st:St} {e:Ex} {st':St} {s s':AS},aAc P T E k fuel c st s=some ((e,st'),s')→bB s'→aC P k c st e st':=by
 intro c
 induction c with
 | skip =>
  intro st e st' s s' h g C0 M0 w0 a w hk hs ro hro n;obtain ⟨he,rfl⟩:=aJ h;cases he;exact wpIn_skip ⟨rfl,hs⟩
 | region id ops d =>
  intro st e st' s s' h g;refine kO ?_ h g;intro st st' e s s' h g;obtain ⟨st1,s1,h1,k1⟩:=aD h;obtain ⟨he,rfl⟩:=aJ k1;cases he;exact aPq hT hE hm h1 g
 | seq a b iha ihb =>
  intro st e st' s s' h g;refine kO ?_ h g;intro st st' e s s' h g C0 M0 w0 ac w hk hs ro hro n;obtain ⟨⟨e1,st1⟩,s1,h1,k1⟩:=aD h;refine wpIn_seq ?_;cases e1 with
  | normal =>
   have g1:=(sQ b st1).good k1 g;refine wpIn_mono (iha h1 g1 C0 M0 w0 ac w hk hs ro hro.seq1 n) ?_;rintro e' a' w' ⟨rfl,hs'⟩;exact ihb k1 g C0 M0 w0 a' w' hk hs' ro hro.seq2 n
  | ret =>
   obtain ⟨he,rfl⟩:=aJ k1;cases he;refine wpIn_mono (iha h1 g C0 M0 w0 ac w hk hs ro hro.seq1 n) ?_;rintro e' a' w' ⟨rfl,hs'⟩;exact ⟨rfl,hs'⟩
  | exit id =>
   obtain ⟨he,rfl⟩:=aJ k1;cases he;refine wpIn_mono (iha h1 g C0 M0 w0 ac w hk hs ro hro.seq1 n) ?_;rintro e' a' w' ⟨rfl,hs'⟩;exact ⟨rfl,hs'⟩
 | cond c a b iha ihb =>
  intro st e st' s s' h g;refine kO ?_ h g;intro st st' e s s' h g C0 M0 w0 ac w hk hs ro hro n;obtain ⟨x,s1,h1,k1⟩:=aD h;obtain ⟨e1,rfl⟩:=aG h1;obtain ⟨d,s2,h2,k2⟩:=aD k1;have hs0:=hs;obtain ⟨C,hS,_⟩:=hs0;cases d with
  | true =>
   obtain ⟨hb,_⟩:=pX (hS.ev e1) h2 ((sQ a st).good k2 g);exact wpIn_cond_true hb (iha k2 g C0 M0 w0 ac w hk hs ro hro.cond1 n)
  | false =>
   obtain ⟨hb,_⟩:=pX (hS.ev e1) h2 ((sQ b st).good k2 g);exact wpIn_cond_false hb (ihb k2 g C0 M0 w0 ac w hk hs ro hro.cond2 n)
 | block id b ih =>
  intro st e st' s s' h g;refine kO ?_ h g;intro st st' e s s' h g C0 M0 w0 ac w hk hs ro hro n;obtain ⟨⟨e1,st1⟩,s1,h1,k1⟩:=aD h;refine wpIn_block ?_;cases e1 with
  | normal =>
   obtain ⟨he,rfl⟩:=aJ k1;cases he;refine wpIn_mono (ih h1 g C0 M0 w0 ac w hk hs ro hro.block n) ?_;rintro e' a' w' ⟨rfl,hs'⟩;exact ⟨rfl,hs'⟩
  | ret =>
   obtain ⟨he,rfl⟩:=aJ k1;cases he;refine wpIn_mono (ih h1 g C0 M0 w0 ac w hk hs ro hro.block n) ?_;rintro e' a' w' ⟨rfl,hs'⟩;exact ⟨rfl,hs'⟩
  | exit i =>
   dsimp only at k1
   cases hb:Nat.beq i id with
   | true =>
    rw [hb] at k1
    obtain ⟨he,rfl⟩:=aJ k1;cases he;have hid:i=id:=Nat.eq_of_beq_eq_true hb;refine wpIn_mono (ih h1 g C0 M0 w0 ac w hk hs ro hro.block n) ?_;rintro e' a' w' ⟨rfl,hs'⟩;simp only [Ex.toExit,Exit.inBlock,hid,if_true];exact ⟨trivial,hs'⟩
   | false =>
    rw [hb] at k1
    obtain ⟨he,rfl⟩:=aJ k1;cases he;have hid:i≠id:=Nat.ne_of_beq_eq_false hb;refine wpIn_mono (ih h1 g C0 M0 w0 ac w hk hs ro hro.block n) ?_;rintro e' a' w' ⟨rfl,hs'⟩;simp only [Ex.toExit,Exit.inBlock,hid,if_false];exact ⟨trivial,hs'⟩
 | loop b ih =>
  intro st e st' s s' h g;refine kO ?_ h g;intro st st' e s s' h g C0 M0 w0 ac w hk hs ro hro n;refine wpIn_mono (LoopIn.wp (zD (sQ b) ih fuel (bGi h) g C0 M0 w0 ac w hk hs ro hro.loop n)) ?_;rintro e' a' w' ⟨h1,_,h2⟩;exact ⟨h1,h2⟩
 | exit id =>
  intro st e st' s s' h g C0 M0 w0 a w hk hs ro hro n;obtain ⟨he,rfl⟩:=aJ h;cases he;exact wpIn_exit ⟨rfl,hs⟩
 | label l =>
  intro st e st' s s' h g C0 M0 w0 a w hk hs ro hro n;obtain ⟨he,rfl⟩:=aJ h;cases he;exact wpIn_label ⟨rfl,hs⟩
 | scope b ih =>
  intro st e st' s s' h g C0 M0 w0 a w hk hs ro hro n;refine aPr (wpIn_mono (ih h g C0 M0 w0 a w hk hs ro hro.scope n) ?_);rintro e' a' w' ⟨rfl,hs'⟩;exact ⟨fun l=>by cases e <;> simp [Ex.toExit],rfl,hs'⟩
 | ret =>
  intro st e st' s s' h g C0 M0 w0 a w hk hs ro hro n;obtain ⟨he,rfl⟩:=aJ h;cases he;exact wpIn_ret ⟨rfl,hs⟩
 | _ =>
  intro st e st' s s' h g;refine kO ?_ h g;intro st st' e s s' h g;exact (aW h).elim
end
section
variable {P:Program} {T:TT} {E:Env} {C C0:Cx} {M M0:Mem} {w w0:World}

def cAo(T:TT)(st:St):ResultVar→Ask AV
 | .tmp t=>lift st.t[t]?
 | .cell a t=>do
  let x ← lift st.t[a]?
  vload T st.m t x
def aPn(T:TT)(st:St):List ResultVar→Ask (List AV)
 | []=>pure []
 | r::l=>do
  let x ← cAo T st r
  let xs ← aPn T st l
  pure (x::xs)
def bGg:List AV→AV
 | [x]=>x
 | l => .tup l

def aGd:Mem→Bool
 | []=>true
 | some (.pk _ _ _ _)::_=>false
 | _::r=>aGd r
theorem oT:∀ {m:Mem},aGd m=true→aQc m
 | [],_,i,o,h=>by simp at h
 | none::r,hm,i,o,h=>by
  cases i with
  | zero=>simp at h
  | succ i=>exact oT (m:=r) hm i o (by simpa using h)
 | some x::r,hm,i,o,h=>by
  cases i with
  | zero =>
   simp at h;subst h
   cases x with
   | pk=>simp [aGd] at hm
   | _=>rfl
  | succ i =>
   refine oT (m:=r) ?_ i o (by simpa using h)
   cases x with
   | pk=>simp [aGd] at hm
   | _=>simpa [aGd] using hm
def aPo(P:Program)(T:TT)(E:Env)(fuel:Nat)(fn:Func)(c:Code)(args:List AV)(m:Mem):Ask (AV × Mem):=do
 lift (if aGd m=true then some () else none)
 let r ← aAc P T E m.length fuel c ⟨args++List.replicate (fn.ntmps-args.length) .any,m⟩
 match r.1 with
 | .exit _=>fail
 | _=>do
  let l ← aPn T r.2 fn.results.toList
  pure (bGg l,r.2.m)

def FMM(P:Program)(f:Nat)(args:List AV)(M:Mem)(r:AV)(M':Mem):Prop :=
 ∀ (C:Cx) (w:World) (us:List Value),dD C M w args us→aR P C M w→∀ n,CallsIn Fence.wide n P f us.toArray w (fun e w'=>∃ u,e = .returned u∧∃ C',Fr C M w C' M' w'∧aR P C' M' w'∧Rep C' M' w' r u)

def uM(P:Program)(f:Nat)(args:List AV)(M:Mem)(r:AV)(M':Mem):Prop :=
 ∀ (C:Cx) (w:World) (us:List Value),dD C M w args us→aR P C M w→∀ n,CallsIn Fence.wide n P f us.toArray w (fun e w'=>∃ u,e = .returned u∧∃ C',Fr C M w C' M' w'∧aR P C' M' w'∧Rep C' M' w' r u∧mV (C.with []) M M' C' w w')
theorem uM.fmm{f:Nat}{args:List AV}{M M':Mem}{r:AV}(h:uM P f args M r M'):FMM P f args M r M':=fun C w us hus hM n=>(h C w us hus hM n).mono fun _ w' ⟨u,q,C',h1,h2,h3,_⟩=>⟨u,q,C',h1,h2,h3⟩

theorem xJ{st:St}:∀ (l:List ResultVar),cD (aPn T st l)
 | []=>aM _
 | r::l=>by
  unfold aPn;refine bD ?_ fun _=>bD (xJ l) fun _=>aM _
  cases r with
  | tmp t=>exact mR _
  | cell a t=>exact aK fun _=>aCi

def aBq(tmps:Array Value):ResultVar→Sem Value
 | .tmp t=>pure (tmps.getD t undef)
 | .cell a t=>do loadVar t (← asAddr (tmps.getD a undef))

theorem aXq{t:Nat}{y x:AV}{u:Value}{s s':AS}(h:vload T M t y s=some (x,s'))(hy:Rep C M w y u):∃ p,u = .pointer (some p):=by
 unfold vload at h
 obtain ⟨i,s1,h1,k1⟩:=aD h
 split at k1
 ·rename_i id off
  obtain ⟨o,s2,h2,k2⟩:=aD k1;obtain ⟨e2,rfl⟩:=aG h2;have hl:o.live=true:=by
   cases o with
   | dead=>exact (aW k2).elim
   | _=>rfl
  obtain ⟨b,hu,_⟩:=gQ hy (jE (eC e2) hl);exact ⟨_,hu⟩
 ·cases hy;exact ⟨_,rfl⟩
 ·exact (aW k1).elim

theorem aPp(hT:∀ t i,T t=some i→cJ P t=some i)(hM:aR P C M w){ts:List AV}{us:Array Value}(hS:eI C M w ts us){r:ResultVar}{x:AV}{s s':AS}(h:cAo T ⟨ts,M⟩ r s=some (x,s'))(g:bB s') :
  ∃ u,(aBq us r).run P w = .ok u w∧Rep C M w x u:=by
 cases r with
 | tmp t =>
  obtain ⟨e1,rfl⟩:=aG h;exact ⟨_,rfl,hS.at e1⟩
 | cell a t =>
  obtain ⟨y,s1,h1,k1⟩:=aD h;obtain ⟨e1,rfl⟩:=aG h1;obtain ⟨_,u,h2,h3⟩:=zP hT hM (hS.at e1) k1 g
  refine ⟨u,?_,h3⟩;obtain ⟨p,hp⟩:=aXq k1 (hS.at e1)
  unfold Instr.loadAt at h2
  simp only [aBq];rw [hp] at h2 ⊢
  exact h2

theorem aBr(hT:∀ t i,T t=some i→cJ P t=some i)(hM:aR P C M w){ts:List AV}{us:Array Value}(hS:eI C M w ts us):∀ (l:List ResultVar) {xs:List AV} {s s':AS},aPn T ⟨ts,M⟩ l s=some (xs,s')→bB s' →
  ∃ vs:List Value,(l.mapM (aBq us)).run P w = .ok vs w∧dD C M w xs vs
 | [],xs,s,s',h,g=>by
  obtain ⟨rfl,rfl⟩:=aJ h;exact ⟨[],rfl,.nil⟩
 | r::l,xs,s,s',h,g=>by
  obtain ⟨x,s1,h1,k1⟩:=aD h;obtain ⟨ys,s2,h2,k2⟩:=aD k1;obtain ⟨rfl,rfl⟩:=aJ k2;obtain ⟨u,e1,r1⟩:=aPp hT hM hS h1 ((xJ l).good h2 g);obtain ⟨vs,e2,r2⟩:=aBr hT hM hS l h2 g;refine ⟨u::vs,?_,.cons _ _ _ _ r1 r2⟩;rw [List.mapM_cons,Sem.run_bind,e1,Result.andThen_ok,Sem.run_bind,e2,Result.andThen_ok,Sem.run_pure]

theorem aLs{fn:Func}{us:Array Value}{vs:List Value}(h:(fn.results.toList.mapM (aBq us)).run P w = .ok vs w):(results fn us).run P w = .ok (if _:vs.length=1 then vs[0] else .tuple vs.toArray) w:=by
 have e:(results fn us)=(do let vs ← fn.results.mapM (aBq us);pure (if h:vs.size=1 then vs[0] else .tuple vs)):=by
  unfold results
  congr 1
 rw [e,Sem.run_bind,Array.mapM_eq_mapM_toList,Sem.run_map,h,Result.andThen_ok,Result.andThen_ok,Sem.run_pure]
 congr 1

theorem bMg{xs:List AV}{vs:List Value}(h:dD C M w xs vs):Rep C M w (bGg xs) (if _:vs.length=1 then vs[0] else .tuple vs.toArray):=by
 have hl:=h.len;cases h with
 | nil=>exact .tup [] _ rfl (fun i h=>by simp at h)
 | cons x u l k hx hr =>
  cases hr with
  | nil=>exact hx
  | cons y v l k hy hr =>
   have hne:¬ (u::v::k).length=1:=by simp
   rw [dif_neg hne];refine .tup _ _ (by simpa using hl) (fun i hi => ?_)
   have:=(dD.cons x u _ _ hx (dD.cons y v l k hy hr)).at i hi
   rwa [← cB] at this

theorem Sim.take{st:St}{a:Act}{d:Deferred}{ds:List Deferred}(h:Sim P C0 M0 w0 st a w)(hd:a.defers=d::ds):∃ D,d=mark D∧w.heap[D]? = some (.deferred (some []))∧Sim P C0 M0 w0 st { a with defers:=ds } (w.putObj D (.deferred none)):=by
 obtain ⟨C,hS,hM,hF,⟨l,h1,h2,h3⟩,hR,hP⟩:=h;rw [hd] at h1
 cases l with
 | nil=>simp at h1
 | cons D l =>
  rw [gZ,List.cons.injEq] at h1
  obtain ⟨rfl,rfl⟩:=h1;obtain ⟨q1,q2,q3⟩:=h3 D (by simp)
  obtain ⟨hnd,hnd2⟩:=List.nodup_cons.1 h2;have hg:=grownBy_putObj' w D (.deferred none);have hsz:(w.putObj D (.deferred none)).heap.size=w.heap.size:=by simp [World.putObj]
  have hk:∀ b,b≠D→(w.putObj D (.deferred none)).heap[b]? = w.heap[b]? := fun b hb=>by
   rcases Nat.lt_or_ge b w.heap.size with h | h
   ·exact hg.block b h (by simpa using hb)
   ·rw [Array.getElem?_eq_none h,Array.getElem?_eq_none (by omega)]
  have hlive:∀ (id:Nat) (o:AO) (b:Nat),st.m[id]? = some (some o)→o.live=true→C.ι id=some b→b≠D:=fun id o b ho hl hb e=>by
   subst e;exact aMf hM hP ho hl hb q1
  have hL:Le C C st.m st.m w (w.putObj D (.deferred none)):=⟨fun _ o h=>⟨o,h⟩,fun _ _ _ _ _ cs h=>⟨cs,h⟩,fun _ o h o' h' hl=>by rw [h] at h';cases h';exact ⟨hl,rfl,rfl⟩,fun _ h=>h,fun b hb=>hk b fun e=>q3 (e ▸ hb)⟩
  refine ⟨D,rfl,q1,C,hS.le hL,⟨fun i ty' n cs hm => ?_,fun i ty' cs hm => ?_,fun i es cl hm => ?_,hM.inj,hM.nF,fun b hb=>by rw [hsz];exact hM.Fs b hb,fun i x b hm hl hb=>by rw [hsz];exact hM.lt i x b hm hl hb⟩,
   ⟨hg.os.trans hF.os,hg.tape.trans hF.tape,hg.output.trans hF.out,fT hF.size hg.size,fun b hb hn=>(hk b (by omega)).trans (hF.keep b hb hn),hF.ids,hF.row,hF.liv,hF.new,hF.F1,hF.F2⟩,⟨l,rfl,hnd2,fun D' hD' => ?_⟩,fun p hp => ?_,fun i to ti sz L hm => ?_,hP.2⟩
  ·rcases hM.row _ _ _ _ hm with h4 | ⟨b,arr,inf,q0,q1',q2',q3',q4,q5,q6,q7,q8⟩
   ·exact .inl h4
   ·exact .inr ⟨b,arr,inf,q0,by rw [hk b (hlive _ _ _ hm rfl q0)];exact q1',q2',q3',q4,q5,q6,fun j hj=>(q7 j hj).mono hL.F hL.fz,q8⟩
  ·obtain ⟨b,arr,q0,q1',q2',q3',q4⟩:=hM.box _ _ _ hm
   exact ⟨b,arr,q0,by rw [hk b (hlive _ _ _ hm rfl q0)];exact q1',q2',fun j hj=>(q3' j hj).mono hL,q4⟩
  ·obtain ⟨b,arr,q0,q1',q2',q3'⟩:=hM.mp _ _ _ hm
   refine ⟨b,arr,q0,by rw [hk b (hlive _ _ _ hm rfl q0)];exact q1',q2',fun j hj => ?_⟩
   obtain ⟨en,r1,r2,r3,r4⟩:=q3' j hj;exact ⟨en,r1,r2,r3,r4.mono hL.F hL.fz⟩
  ·obtain ⟨r1,r2,r3⟩:=h3 D' (kQ6 _ hD')
   exact ⟨by rw [hk D' (fun e=>hnd (e ▸ hD'))];exact r1,r2,r3⟩
  ·obtain ⟨r1,r2,r3,r4,r5⟩:=hR p hp
   exact ⟨by rw [hk p.1 (fun e=>r3 (by rw [e,q1] at r1;exact (Option.some.inj r1).symm))];exact r1,r2,r3,r4,r5⟩
  ·obtain ⟨p,p0,p1⟩:=hP.1 _ _ _ _ _ hm
   exact ⟨p.move p.io rfl (fun _ h=>h) hL.fz fun b hb=>⟨hk b (fun e=>by
    obtain ⟨_,arr,ty,r1⟩:=p.lt hb;rw [e,q1] at r1;cases r1),p.own b hb⟩,p0,p1⟩

theorem zC(hT:∀ t i,T t=some i→cJ P t=some i)(hE:mE P E)(hm:P.follows .mixedOrders=true){fuel f:Nat}{fn:Func}{c:Code}(hf:P.funcs[f]? = some fn)(hb:fn.body=some c){args:List AV}{r:AV}{M':Mem}{s s':AS}
  (h:aPo P T E fuel fn c args M s=some ((r,M'),s')) (g:bB s'):uM P f args M r M':=by
 intro C w us hus hM n;unfold aPo at h
 obtain ⟨_,s0,h0,k0⟩:=aD h;obtain ⟨e0,rfl⟩:=aG h0;have hnp:=oT (bP e0).1;obtain ⟨⟨e,st⟩,s1,h1,k1⟩:=aD k0;have hlen:=hus.len;have hS:eI C M w (args++List.replicate (fn.ntmps-args.length) .any) (us.toArray++Array.replicate (fn.ntmps-us.toArray.size) undef):=by
  refine ⟨by simp [hlen],fun i hi => ?_⟩
  by_cases c1:i<args.length
  ·rw [aAi c1,kQ2,Array.getElem?_append_left (by simp;omega)]
   have:=hus.at i c1
   rwa [← cB,kQ2] at this
  ·rw [aNi (by omega),List.getElem_replicate]
   exact .any _
 have hsim:Sim P (C.with []) M w ⟨args++List.replicate (fn.ntmps-args.length) .any,M⟩ { tmps:=us.toArray++Array.replicate (fn.ntmps-us.toArray.size) undef,defers:=[] } w:=⟨C,hS,hM,(Fr.refl ..).based [],.nil rfl hnp⟩
 refine callsIn_of_wp_marks hf hb trivial ?_;have fin:∀ (e':Exit) (a':Act) (w':World),(e' = .normal∨e' = .ret)→Sim P (C.with []) M w st a' w'→(∃ l s2,aPn T st fn.results.toList s1=some (l,s2)∧bB s2∧r=bGg l∧M'=st.m)→bodyPostM Fence.wide n P fn (fun e w'=>∃ u,e = .returned u∧∃ C',Fr C M w C' M' w'∧aR P C' M' w'∧Rep C' M' w' r u∧mV (C.with []) M M' C' w w') e' a' w':=by
  rintro e' a' w' he hs' ⟨l,s2,h2,g2,rfl,rfl⟩;have key:∀ (ds:List Deferred) (a':Act) (w':World),a'.defers=ds→Sim P (C.with []) M w st a' w'→LeavesInM Fence.wide n P fn a'.tmps (fun e w'=>∃ u,e = .returned u∧∃ C',Fr C M w C' st.m w'∧aR P C' st.m w'∧Rep C' st.m w' (bGg l) u∧mV (C.with []) M st.m C' w w') ds .returning w':=by
   intro ds
   induction ds with
   | nil =>
    rintro a' w' hd ⟨C',hS',hM',hF',_,_,hP'⟩;obtain ⟨ts,m⟩:=st;obtain ⟨vs,e2,r2⟩:=aBr hT hM' hS' fn.results.toList h2 g2;exact ⟨_,aLs e2,_,rfl,C',hF'.unbased,hM',bMg r2,hP'⟩
   | cons d ds ih =>
    intro a' w' hd hs';obtain ⟨D,rfl,hD,hs2⟩:=hs'.take hd;exact ⟨by simp,.inl ⟨_,_,rfl,run_takeDeferred hD,ih { a' with defers:=ds } _ rfl hs2⟩⟩
  rcases he with rfl | rfl
  ·exact key _ a' w' rfl hs'
  ·exact key _ a' w' rfl hs'
 have out:(e = .normal∨e = .ret)∧∃ l s2,aPn T st fn.results.toList s1=some (l,s2)∧bB s2∧r=bGg l∧M'=st.m:=by
  cases e with
  | exit id=>exact (aW k1).elim
  | normal =>
   obtain ⟨l,s2,h2,k2⟩:=aD k1;obtain ⟨he,rfl⟩:=aJ k2;cases he;exact ⟨.inl rfl,l,_,h2,g,rfl,rfl⟩
  | ret =>
   obtain ⟨l,s2,h2,k2⟩:=aD k1;obtain ⟨he,rfl⟩:=aJ k2;cases he;exact ⟨.inr rfl,l,_,h2,g,rfl,rfl⟩
 obtain ⟨he,l,s2,h2,g2,e3,e4⟩:=out;have g1:=(xJ _).good h2 g2;refine wpIn_mono (aBs hT hE hm c h1 g1 (C.with []) M w _ w (dM _) hsim none (.inl rfl) n) ?_
 rintro e' a' w' ⟨rfl,hs'⟩;exact fin _ a' w' (by rcases he with rfl | rfl <;> simp [Ex.toExit]) hs' ⟨l,s2,h2,g2,e3,e4⟩
end
section
variable {P:Program} {T:TT} {E:Env} {C C0:Cx} {M M0:Mem} {w w0:World}

mutual
def aLr:PV→Bool
 | .v _=>true
 | .sl _ cs=>match cs with
  | []=>true
  | _=>false
 | .agg cs=>yZ cs
 | .mp _=>false
 | .rp _ _=>false
def yZ:List PV→Bool
 | []=>true
 | x::r=>match aLr x with
  | true=>yZ r
  | false=>false
end
mutual
def rig:AV→Bool
 | .p x=>aLr x
 | .kb _=>true
 | .any=>true
 | .yld _=>true
 | .agg cs=>aPm cs
 | .fn _ a b=>match aPm a with
  | true=>aPm b
  | false=>false
 | _=>false
def aPm:List AV→Bool
 | []=>true
 | x::r=>match rig x with
  | true=>aPm r
  | false=>false
end
mutual
def noRef:AV→Bool
 | .p _=>true
 | .kb _=>true
 | .any=>true
 | .yld _=>true
 | .rp _ _=>true
 | .agg cs=>jS cs
 | .fn _ a b=>match jS a with
  | true=>jS b
  | false=>false
 | _=>false
def jS:List AV→Bool
 | []=>true
 | x::r=>match noRef x with
  | true=>jS r
  | false=>false
end

theorem aBp:∀ {l:List PV},yZ l=true→∀ i (h:i<l.length),aLr l[i]=true
 | [],_,i,h=>by simp at h
 | x::r,hr,i,h=>by
  unfold yZ at hr
  split at hr
  ·cases i with
   | zero=>assumption
   | succ i=>exact aBp hr i (by simpa using h)
  ·cases hr
theorem aAv:∀ {l:List AV},aPm l=true→∀ i (h:i<l.length),rig l[i]=true
 | [],_,i,h=>by simp at h
 | x::r,hr,i,h=>by
  unfold aPm at hr
  split at hr
  ·cases i with
   | zero=>assumption
   | succ i=>exact aAv hr i (by simpa using h)
  ·cases hr
theorem oS:∀ {l:List AV},jS l=true→∀ i (h:i<l.length),noRef l[i]=true
 | [],_,i,h=>by simp at h
 | x::r,hr,i,h=>by
  unfold jS at hr
  split at hr
  ·cases i with
   | zero=>assumption
   | succ i=>exact oS hr i (by simpa using h)
  ·cases hr

theorem cN.rig{F G:Nat→Prop}{w w':World}{x:PV}{u:Value}(h:cN F w x u)(hr:aLr x=true):cN G w' x u:=by
 induction h with
 | v x=>exact .v x
 | sl n cs p cap us h1 h2 h3 _ h5 ih =>
  cases cs with
  | nil=>exact .sl n [] p cap us h1 h2 (fun i h=>by simp at h) (fun i h=>by simp at h) (fun i h=>by simp at h)
  | cons=>simp [aLr] at hr
 | agg cs vs h0 h1 _ ih =>
  have hr':yZ cs=true:=by simpa [aLr] using hr
  exact .agg cs vs h0 h1 fun i hi=>ih i hi (aBp hr' i hi)
 | mp=>simp [aLr] at hr
 | rp=>simp [aLr] at hr

theorem Rep.rig{C C':Cx}{M M':Mem}{w w':World}{x:AV}{u:Value}(h:Rep C M w x u)(hr:rig x=true):Rep C' M' w' x u:=by
 induction h with
 | p x u h=>exact .p x u (h.rig (by simpa [KV.rig] using hr))
 | any u=>exact .any u
 | kb b=>exact .kb b
 | yld l=>exact .yld l
 | agg cs vs h0 h1 _ ih =>
  have hr':aPm cs=true:=by simpa [KV.rig] using hr
  exact .agg cs vs h0 h1 fun i hi=>ih i hi (aAv hr' i hi)
 | fn f cs ds us vs h1 h2 _ _ ih1 ih2 =>
  simp only [KV.rig] at hr
  split at hr
  ·rename_i hr1
   exact .fn f cs ds us vs h1 h2 (fun i hi=>ih1 i hi (aAv hr1 i hi)) (fun i hi=>ih2 i hi (aAv hr i hi))
  ·cases hr
 | _=>simp [KV.rig] at hr

theorem Rep.noRef{C C':Cx}{M M':Mem}{w w':World}{x:AV}{u:Value}(h:Rep C M w x u)(hr:noRef x=true)(hF:∀ b,C.F b→C'.F b)(hz:∀ b,C.F b→w'.heap[b]? = w.heap[b]?):Rep C' M' w' x u:=by
 induction h with
 | p x u h=>exact .p x u (h.mono hF hz)
 | any u=>exact .any u
 | kb b=>exact .kb b
 | yld l=>exact .yld l
 | rp cs off b o us h1 h2 h3=>exact .rp cs off b o us (fun i hi=>⟨hF _ (h1 i hi).1,(eN (hz _ (h1 i hi).1) _).trans (h1 i hi).2⟩) (fun i hi=>(h2 i hi).mono hF hz) h3
 | agg cs vs h0 h1 _ ih =>
  have hr':jS cs=true:=by simpa [KV.noRef] using hr
  exact .agg cs vs h0 h1 fun i hi=>ih i hi (oS hr' i hi)
 | fn f cs ds us vs h1 h2 _ _ ih1 ih2 =>
  simp only [KV.noRef] at hr
  split at hr
  ·rename_i hr1
   exact .fn f cs ds us vs h1 h2 (fun i hi=>ih1 i hi (oS hr1 i hi)) (fun i hi=>ih2 i hi (oS hr i hi))
  ·cases hr
 | _=>simp [KV.noRef] at hr

def Cx.bare(C:Cx)(G:Nat→Prop):Cx:={ ι:=fun _=>none,κ:=C.κ,F:=G }

section
variable {G:Nat→Prop} (hM:aR P C M w) (hG:∀ b,C.F b→G b) (hO:∀ (id:Nat) (o:AO) (b:Nat),M[id]? = some (some o)→o.live=true→C.ι id=some b→G b)
include hM hG hO

theorem zA{x:AV}{u:Value}{y:PV}(h:Rep C M w x u)(hv:view1 M x=some y):cN G w y u:=by
 unfold view1 at hv
 split at hv
 ·cases hv;cases h with | p _ _ h=>exact h.mono hG (fun _ _=>rfl)
 ·cases hv;cases h;exact .v _
 ·split at hv
  ·rename_i id _ r hr
   cases hv;have ho:=dL hr;refine (uW hM ho h).mono (fun b hb => ?_) (fun _ _=>rfl)
   rcases hb with hb | ⟨_,hb⟩
   ·exact hG b hb
   ·exact hO _ _ b ho rfl hb
  ·cases hv
 ·cases hv

theorem zB:∀ {l:List AV} {us:Nat→Value} {ys:List PV},(∀ i (h:i<l.length),Rep C M w l[i] (us i))→aCl M l=some ys→ys.length=l.length∧∀ i (h:i<ys.length),cN G w ys[i] (us i)
 | [],_,ys,_,hv=>by cases hv;exact ⟨rfl,fun i h=>by simp at h⟩
 | x::r,us,ys,h,hv=>by
  unfold aCl at hv
  split at hv
  ·rename_i y h1
   split at hv
   ·rename_i l h2
    cases hv;obtain ⟨q1,q2⟩:=zB (us:=fun i=>us (i+1)) (fun i hi=>h (i+1) (by simpa using hi)) h2
    refine ⟨by simp [q1],fun i hi => ?_⟩
    cases i with
    | zero=>exact zA hM hG hO (h 0 (by simp)) h1
    | succ i=>exact q2 i (by simpa using hi)
   ·cases hv
  ·cases hv

set_option linter.unusedSectionVars false in
mutual
theorem uL:∀ {x:AV} {u:Value} {y:AV},Rep C M w x u→view M x=some y→Rep (C.bare G) [] w y u
 | .p x,u,y,h,hv=>by
  simp only [view] at hv
  cases hv;cases h with | p _ _ h=>exact .p _ _ (h.mono hG (fun _ _=>rfl))
 | .kb b,u,y,h,hv=>by simp only [view] at hv;cases hv;cases h;exact .kb _
 | .any,u,y,h,hv=>by simp only [view] at hv;cases hv;exact .any _
 | .yld l,u,y,h,hv=>by simp only [view] at hv;cases hv;cases h;exact .yld _
 | .own id,u,y,h,hv=>by
  simp only [view] at hv
  split at hv
  ·rename_i r hr
   cases hv;exact .p _ _ (zA hM hG hO h (by simp only [view1,hr]))
  ·cases hv
 | .rp cs off,u,y,h,hv=>by
  simp only [view] at hv
  cases hv;cases h with
  | rp _ _ b o us h1 h2 h3=>exact .rp cs off b o us (fun i hi=>⟨hG _ (h1 i hi).1,(h1 i hi).2⟩) (fun i hi=>(h2 i hi).mono hG (fun _ _=>rfl)) h3
 | .ptr id off,u,y,h,hv=>by
  simp only [view] at hv
  split at hv
  ·rename_i ty n cs ho
   cases hv;have ho:=eC ho;obtain ⟨b,rfl,hb⟩:=gQ h (jE ho rfl)
   rcases hM.row _ _ _ _ ho with ⟨hn,_⟩ | ⟨b',arr,inf,hb',q1,q2,q3,q4,q5,q6,q7,q8⟩
   ·rw [hb] at hn;cases hn
   ·rw [hb] at hb';cases hb'
    have hle:cs.length≤arr.size:=by rw [q3,q4];exact Nat.mul_le_mul_right _ q5
    have:=Rep.rp (C:=C.bare G) (M:=[]) (w:=w) cs off b 0 (fun j=>arr.getD j undef) (fun i hi=>⟨hO _ _ b ho rfl hb,by rw [gN];exact bX q1 (by omega)⟩) (fun i hi=>(q7 i hi).mono hG (fun _ _=>rfl)) q8
    rwa [gN] at this
  ·rename_i ty cs ho
   have ho:=eC ho
   split at hv
   ·rename_i xs hx
    cases hv;obtain ⟨b,rfl,hb⟩:=gQ h (jE ho rfl);obtain ⟨b',arr,hb',q1,q2,q3,q4⟩:=hM.box _ _ _ ho;rw [hb] at hb';cases hb'
    obtain ⟨r1,r2⟩:=zB hM hG hO (us:=fun j=>arr.getD j undef) q3 hx
    have:=Rep.rp (C:=C.bare G) (M:=[]) (w:=w) xs off b 0 (fun j=>arr.getD j undef) (fun i hi=>⟨hO _ _ b ho rfl hb,by rw [gN];exact bX q1 (by omega)⟩) r2 (fun i hi=>q4 i (by omega))
    rwa [gN] at this
   ·cases hv
  ·cases hv
 | .agg cs,u,y,h,hv=>by
  simp only [view] at hv
  split at hv
  ·rename_i xs hx
   cases hv;cases h with
   | agg _ vs h0 h1 h2 =>
    obtain ⟨q1,q2⟩:=lF (us:=fun i=>vs.getD i undef) h2 hx
    exact lG (fun i hi=>h0 i (by omega)) (by omega) q2
  ·cases hv
 | .fn f a b,u,y,h,hv=>by
  simp only [view] at hv
  split at hv
  ·rename_i a' ha
   split at hv
   ·rename_i b' hb
    cases hv;cases h with
    | fn _ _ _ us vs h1 h2 h3 h4 =>
     obtain ⟨q1,q2⟩:=lF (us:=fun i=>us.getD i undef) h3 ha
     obtain ⟨r1,r2⟩:=lF (us:=fun i=>vs.getD i undef) h4 hb
     exact .fn f a' b' us vs (by omega) (by omega) q2 r2
   ·cases hv
  ·cases hv
 | .arr id off n,u,y,h,hv=>by
  simp only [view] at hv
  split at hv
  ·rename_i r hr
   cases hv;have ho:=dL hr;cases h with
   | arr _ _ _ u h0 ha hrow =>
    rcases hrow _ ho rfl with ⟨rfl,p,cap,rfl,hc⟩ | ⟨b,cap,rfl,hn,hc,hb⟩
    ·rw [Nat.zero_mul,List.take_zero]
     exact .p _ _ (.sl 0 [] p cap (fun _=>undef) (Nat.zero_le _) hc (fun i h=>by simp at h) (fun i h=>by simp at h) (fun i h=>by simp at h))
    ·rcases hM.row _ _ _ _ ho with ⟨hn',_⟩ | ⟨b',arr,inf,hb',q1,q2,q3,q4,q5,q6,q7,q8⟩
     ·rw [hb] at hn';cases hn'
     ·rw [hb] at hb';cases hb'
      have hle:r.2.2.length≤arr.size:=by rw [q3,q4];exact Nat.mul_le_mul_right _ q5
      have hlt:∀ i,i<((r.2.2.drop off).take (n*(r.2.2.length / r.2.1))).length→off+i<r.2.2.length:=fun i hi=>by simp at hi;omega
      refine .p _ _ (.sl n _ _ cap (fun j=>arr.getD (off+j) undef) hn hc (fun i hi=>⟨b,off,rfl,hO _ _ b ho rfl hb,bX q1 (by have:=hlt i hi;omega)⟩) (fun i hi => ?_) (fun i hi=>q8 _ (hlt i hi)))
      simp only [List.getElem_take,List.getElem_drop];exact (q7 _ (hlt i hi)).mono hG (fun _ _=>rfl)
  ·cases hv
 | .tup _,_,_,_,hv=>by simp [view] at hv
 | .mp _,_,_,_,hv=>by simp [view] at hv
 | .pa _ _,_,_,_,hv=>by simp [view] at hv
theorem lF:∀ {l:List AV} {us:Nat→Value} {ys:List AV},(∀ i (h:i<l.length),Rep C M w l[i] (us i))→nQ M l=some ys→ys.length=l.length∧∀ i (h:i<ys.length),Rep (C.bare G) [] w ys[i] (us i)
 | [],_,ys,_,hv=>by simp only [nQ] at hv;cases hv;exact ⟨rfl,fun i h=>by simp at h⟩
 | x::r,us,ys,h,hv=>by
  simp only [nQ] at hv
  split at hv
  ·rename_i y h1
   split at hv
   ·rename_i l h2
    cases hv;obtain ⟨q1,q2⟩:=lF (us:=fun i=>us (i+1)) (fun i hi=>h (i+1) (by simpa using hi)) h2
    refine ⟨by simp [q1],fun i hi => ?_⟩
    cases i with
    | zero=>exact uL (h 0 (by simp)) h1
    | succ i=>exact q2 i (by simpa using hi)
   ·cases hv
  ·cases hv
end
end
end
section
variable {P:Program} {T:TT} {E:Env} {C C':Cx} {M M1:Mem} {w w':World}

def Cx.after(C:Cx)(w w':World)(kb:Option Nat):Cx:={ ι:=C.ι,κ:=C.κ,F:=fun b=>C.F b∨(w.heap.size≤b∧b<w'.heap.size∧kb≠some b) }

theorem aLq(hM:aR P C M w){kb:Option Nat}(ho:w'.os=w.os)(ht:w'.tape=w.tape)(hu:w'.output=w.output)(hs:w.heap.size≤w'.heap.size)(hk:∀ b,b<w.heap.size→w'.heap[b]? = w.heap[b]?):Fr C M w (C.after w w' kb) M w'∧aR P (C.after w w' kb) M w':=by
 have hf:Fr C M w (C.after w w' kb) M w':=⟨ho,ht,hu,hs,fun b hb _=>hk b hb,fun _ x h=>⟨⟨x,h⟩,rfl,rfl⟩,fun _ _ _ _ _ cs h=>⟨cs,h⟩,fun _ o h o' h' hl=>by rw [h] at h';cases h';exact hl,
  fun i x _ h hl hb => .inr ⟨i,x,h,hl,hb⟩,fun _ h => .inl h,fun b h=>by rcases h with h | ⟨h,_⟩;exact .inl h;exact .inr (.inl h)⟩
 have hL:=hM.le hf;refine ⟨hf,fun i ty' n cs hm => ?_,fun i ty' cs hm => ?_,fun i es cl hm => ?_,hM.inj,fun i x b hm hl hb => ?_,fun b hb => ?_,fun i x b hm hl hb=>kQ8 (hM.lt i x b hm hl hb) hs⟩
 ·rcases hM.row _ _ _ _ hm with h4 | ⟨b,arr,inf,q0,q1,q2,q3,q4,q5,q6,q7,q8⟩
  ·exact .inl h4
  ·exact .inr ⟨b,arr,inf,q0,(hk b (hM.lt _ _ _ hm rfl q0)).trans q1,q2,q3,q4,q5,q6,fun j hj=>(q7 j hj).mono hL.F hL.fz,q8⟩
 ·obtain ⟨b,arr,q0,q1,q2,q3,q4⟩:=hM.box _ _ _ hm
  exact ⟨b,arr,q0,(hk b (hM.lt _ _ _ hm rfl q0)).trans q1,q2,fun j hj=>(q3 j hj).mono hL,q4⟩
 ·obtain ⟨b,arr,q0,q1,q2,q3⟩:=hM.mp _ _ _ hm
  refine ⟨b,arr,q0,(hk b (hM.lt _ _ _ hm rfl q0)).trans q1,q2,fun j hj => ?_⟩
  obtain ⟨en,r1,r2,r3,r4⟩:=q3 j hj;exact ⟨en,r1,r2,r3,r4.mono hL.F hL.fz⟩
 ·rintro (h | ⟨h,_⟩)
  ·exact hM.nF i x b hm hl hb h
  ·have:=hM.lt i x b hm hl hb
   omega
 ·rcases hb with h | ⟨_,h,_⟩
  ·exact kQ8 (hM.Fs b h) hs
  ·exact h

theorem bGf{C1:Cx}(hM:aR P C1 M w'){base b k ty n:Nat}{cs:List PV}(hf:aAf M base)(hnF:¬ C1.F b)(hold:∀ (i:Nat) (x:AO) (j:Nat),M[i]? = some (some x)→x.live=true→C1.ι i=some j→j<b)(hb:b<w'.heap.size)
  (hrow:∃ arr i,w'.heap[b]? = some (.cells arr ty (0,0))∧P.info? ty=some i∧arr.size=k*i.size∧cs.length=n*i.size∧n≤k∧k≤maxLen∧(∀ j (h:j<cs.length),cN C1.F w' cs[j] (arr.getD j undef))∧∀ j,j<cs.length→(arr.getD j undef).oneCell'=true) :
  aR P (C1.grow base b k) (aZ M base (some (.row ty n cs))) w'∧Le C1 (C1.grow base b k) M (aZ M base (some (.row ty n cs))) w' w':=by
 have hne:∀ (i:Nat) (x:AO),M[i]? = some (some x)→i≠base:=fun i x h e=>hf x (e ▸ h)
 have hL:Le C1 (C1.grow base b k) M (aZ M base (some (.row ty n cs))) w' w':=by
  refine ⟨fun i x h=>⟨x,(aQ M base i _ x (fun e=>hne i x h e.symm)).2 h⟩,fun i x h ty n cs hm=>⟨cs,(aQ M base i _ _ (fun e=>hne i x h e.symm)).1 hm⟩,fun i x h o' hm hl => ?_,fun _ h=>h,fun _ _=>rfl⟩
  have h4:=(aQ M base i _ _ (fun e=>hne i x h e.symm)).1 hm
  rw [h] at h4;cases h4
  exact ⟨hl,by simp [Cx.grow,hne i x h],by simp [Cx.grow,hne i x h]⟩
 have hold':∀ (i:Nat) (x:AO),i≠base→(aZ M base (some (.row ty n cs)))[i]? = some (some x)→M[i]? = some (some x):=fun i x h=>(aQ M base i _ x (fun e=>h e.symm)).1
 have hnew:∀ (x:AO),(aZ M base (some (.row ty n cs)))[base]? = some (some x)→x = .row ty n cs:=fun x h=>by rw [aY] at h;cases h;rfl
 have hι:∀ i,i≠base→(C1.grow base b k).ι i=C1.ι i:=fun i h=>by simp [Cx.grow,h]
 have hκ:∀ i,i≠base→(C1.grow base b k).κ i=C1.κ i:=fun i h=>by simp [Cx.grow,h]
 have hιs:(C1.grow base b k).ι base=some b:=by simp [Cx.grow]
 have hκs:(C1.grow base b k).κ base=k:=by simp [Cx.grow]
 refine ⟨⟨fun i ty' n' cs' hm => ?_,fun i ty' cs' hm => ?_,fun i es cl hm => ?_,fun i i' o1 o2 j hm hl hm' hl' hb1 hb2 => ?_,fun i x j hm hl hj => ?_,fun j hj=>hM.Fs j hj,fun i x j hm hl hj => ?_⟩,hL⟩
 ·by_cases e:i=base
  ·subst e
   cases hnew _ hm;obtain ⟨arr,inf,q0,q1,q2,q3,q4,q5,q6,q7⟩:=hrow;exact .inr ⟨b,arr,inf,hιs,q0,q1,by rw [hκs];exact q2,q3,by rw [hκs];exact q4,by rw [hκs];exact q5,q6,q7⟩
  ·rw [hι i e,hκ i e]
   rcases hM.row _ _ _ _ (hold' i _ e hm) with h4 | ⟨j,arr,inf,q0,q1,q2,q3,q4,q5,q6,q7,q8⟩
   ·exact .inl h4
   ·exact .inr ⟨j,arr,inf,q0,q1,q2,q3,q4,q5,q6,q7,q8⟩
 ·by_cases e:i=base
  ·subst e;cases hnew _ hm
  ·rw [hι i e]
   obtain ⟨j,arr,q0,q1,q2,q3,q4⟩:=hM.box _ _ _ (hold' i _ e hm);exact ⟨j,arr,q0,q1,q2,fun j hj=>(q3 j hj).mono hL,q4⟩
 ·by_cases e:i=base
  ·subst e;cases hnew _ hm
  ·rw [hι i e]
   obtain ⟨j,arr,q0,q1,q2,q3⟩:=hM.mp _ _ _ (hold' i _ e hm);refine ⟨j,arr,q0,q1,q2,fun j hj => ?_⟩
   obtain ⟨en,r1,r2,r3,r4⟩:=q3 j hj;exact ⟨en,r1,r2,r3,r4.mono hL.F hL.fz⟩
 ·by_cases e:i=base
  ·by_cases e':i'=base
   ·rw [e,e']
   ·subst e
    rw [hιs] at hb1;cases hb1
    rw [hι i' e'] at hb2
    have:=hold i' _ _ (hold' i' _ e' hm') hl' hb2;omega
  ·by_cases e':i'=base
   ·subst e'
    rw [hιs] at hb2;cases hb2
    rw [hι i e] at hb1
    have:=hold i _ _ (hold' i _ e hm) hl hb1;omega
   ·rw [hι i e] at hb1;rw [hι i' e'] at hb2
    exact hM.inj _ _ _ _ _ (hold' i _ e hm) hl (hold' i' _ e' hm') hl' hb1 hb2
 ·by_cases e:i=base
  ·subst e;rw [hιs] at hj;cases hj;exact hnF
  ·rw [hι i e] at hj;exact hM.nF _ _ _ (hold' i _ e hm) hl hj
 ·by_cases e:i=base
  ·subst e;rw [hιs] at hj;cases hj;exact hb
  ·rw [hι i e] at hj;exact hM.lt _ _ _ (hold' i _ e hm) hl hj
end
section
variable {P:Program} {T:TT} {E:Env} {C C':Cx} {M M1:Mem} {w w':World}

def aUz:List AV→Option Nat
 | []=>none
 | .own id::_=>some id
 | _::r=>aUz r
def bGd:AV→Option Nat
 | .own id=>some id
 | .tup l=>aUz l
 | _=>none
def aXm(m:Mem)(base k:Nat)(x:AV):Option AV:=match x with
 | .own id=>match Nat.beq id k with
  | true=>some (.own base)
  | false=>view m (.own id)
 | x=>view m x
def aVa(m:Mem)(base k:Nat):List AV→Option (List AV)
 | []=>some []
 | x::r=>match aXm m base k x with
  | some y=>match aVa m base k r with
   | some l=>some (y::l)
   | none=>none
  | none=>none
def bGe(m:Mem)(base k:Nat):AV→Option AV
 | .tup l=>match aVa m base k l with
  | some ys=>some (.tup ys)
  | none=>none
 | x=>aXm m base k x
def aXn(m:Mem)(base:Nat)(r:AV):Option (AV × Upd):=match bGd r with
 | some k=>match fV m k with
  | some q=>match bGe (upds m [(k,.dead)]) base k r with
   | some y=>some (y,[(base,.row q.1 q.2.1 q.2.2)])
   | none=>none
  | none=>none
 | none=>match bGe m base m.length r with
  | some y=>some (y,[])
  | none=>none

def aXo:AV→Bool
 | .own _=>true
 | x=>rig x
def aBn:List AV→Bool
 | []=>true
 | x::r=>match aXo x with
  | true=>aBn r
  | false=>false
def aXp:AV→Bool
 | .tup l=>aBn l
 | x=>aXo x
def aLm:Upd→Bool
 | []=>true
 | (_,.row _ _ cs)::r=>match yZ cs with
  | true=>aLm r
  | false=>false
 | _=>false
theorem aLn:∀ {l:List AV},aBn l=true→∀ i (h:i<l.length),aXo l[i]=true
 | [],_,i,h=>by simp at h
 | x::r,hr,i,h=>by
  unfold aBn at hr
  split at hr
  ·cases i with
   | zero=>assumption
   | succ i=>exact aLn hr i (by simpa using h)
  ·cases hr

theorem aLo{cs l:List AV}(h:kA cs = .tup l):False:=by
 unfold kA at h;split at h <;> cases h
theorem aLp{m:Mem}{x:AV}{l:List AV}(h:view m x=some (.tup l)):False:=by
 cases x with
 | agg cs =>
  simp only [view] at h
  split at h
  ·injection h with h;exact aLo h
  ·cases h
 | fn f a b =>
  simp only [view] at h
  split at h
  ·split at h <;> cases h
  ·cases h
 | ptr id off =>
  simp only [view] at h
  split at h
  ·cases h
  ·split at h <;> cases h
  ·cases h
 | own id=>simp only [view] at h;split at h <;> cases h
 | arr id off n=>simp only [view] at h;split at h <;> cases h
 | _=>simp [view] at h

theorem aBo{C2:Cx}{M2:Mem}{m:Mem}{Ck:Cx}{base k:Nat}{A:Prop}(hM:aR P Ck m w')
  (hA:A→(∀ b,Ck.F b→C2.F b)∧∀ (id:Nat) (o:AO) (b:Nat),m[id]? = some (some o)→o.live=true→Ck.ι id=some b→C2.F b)
  (hk:∀ u,Rep C' M1 w' (.own k) u→Rep C2 M2 w' (.own base) u) (hL:Le C' Ck M1 m w' w') {x y:AV} {u:Value} (h:Rep C' M1 w' x u) (hx:aXm m base k x=some y) (hr:A∨aXo y=true):Rep C2 M2 w' y u:=by
 have sv:∀ {x y:AV} {u:Value},Rep C' M1 w' x u→view m x=some y→(A∨aXo y=true)→Rep C2 M2 w' y u:=fun {x y u} h hv hr=>by
  rcases hr with hr | hr
  ·obtain ⟨h1,h2⟩:=hA hr
   have:=uL hM h1 h2 (h.mono hL) hv;have hle:Le (Ck.bare C2.F) C2 [] M2 w' w':=⟨fun _ _ h=>by simp at h,fun _ _ h=>by simp at h,fun _ _ h=>by simp at h,fun _ h=>h,fun _ _=>rfl⟩
   exact this.mono hle
  ·have:=uL (G:=fun b=>Ck.F b∨∃ (id:Nat) (o:AO),m[id]? = some (some o)∧o.live=true∧Ck.ι id=some b) hM (fun _ h => .inl h) (fun id o b h1 h2 h3 => .inr ⟨id,o,h1,h2,h3⟩) (h.mono hL) hv
   cases y with
   | own id=>cases this with | own _ _ _ ha _=>obtain ⟨o,ho⟩:=ha;simp at ho
   | _=>exact this.rig hr
 unfold aXm at hx
 split at hx
 ·rename_i id
  split at hx
  ·rename_i hb
   cases hx;have:=Nat.eq_of_beq_eq_true hb;subst this;exact hk u h
  ·exact sv h hx hr
 ·exact sv h hx hr

theorem yY{C2:Cx}{M2:Mem}{m:Mem}{Ck:Cx}{base k:Nat}{A:Prop}(hM:aR P Ck m w')
  (hA:A→(∀ b,Ck.F b→C2.F b)∧∀ (id:Nat) (o:AO) (b:Nat),m[id]? = some (some o)→o.live=true→Ck.ι id=some b→C2.F b)
  (hk:∀ u,Rep C' M1 w' (.own k) u→Rep C2 M2 w' (.own base) u) (hL:Le C' Ck M1 m w' w'):∀ {l ys:List AV} {us:Nat→Value},(∀ i (h:i<l.length),Rep C' M1 w' l[i] (us i))→aVa m base k l=some ys→(A∨aBn ys=true) →
   ys.length=l.length∧∀ i (h:i<ys.length),Rep C2 M2 w' ys[i] (us i)
 | [],ys,us,_,hx,_=>by cases hx;exact ⟨rfl,fun i h=>by simp at h⟩
 | x::r,ys,us,h,hx,hr=>by
  unfold aVa at hx
  split at hx
  ·rename_i y h1
   split at hx
   ·rename_i l h2
    cases hx;have hr1:A∨aXo y=true:=hr.imp id fun hr=>aLn (l:=y::l) hr 0 (by simp)
    have hr2:A∨aBn l=true:=hr.imp id fun hr=>by
     unfold aBn at hr
     split at hr
     ·exact hr
     ·cases hr
    obtain ⟨q1,q2⟩:=yY hM hA hk hL (us:=fun i=>us (i+1)) (fun i hi=>h (i+1) (by simpa using hi)) h2 hr2
    refine ⟨by simp [q1],fun i hi => ?_⟩
    cases i with
    | zero=>exact aBo hM hA hk hL (h 0 (by simp)) h1 hr1
    | succ i=>exact q2 i (by simpa using hi)
   ·cases hx
  ·cases hx

theorem uK{C2:Cx}{M2:Mem}{m:Mem}{Ck:Cx}{base k:Nat}{A:Prop}(hM:aR P Ck m w')
  (hA:A→(∀ b,Ck.F b→C2.F b)∧∀ (id:Nat) (o:AO) (b:Nat),m[id]? = some (some o)→o.live=true→Ck.ι id=some b→C2.F b)
  (hk:∀ u,Rep C' M1 w' (.own k) u→Rep C2 M2 w' (.own base) u) (hL:Le C' Ck M1 m w' w') {x y:AV} {u:Value} (h:Rep C' M1 w' x u) (hx:bGe m base k x=some y) (hr:A∨aXp y=true):Rep C2 M2 w' y u:=by
 unfold bGe at hx
 split at hx
 ·rename_i l
  split at hx
  ·rename_i ys hy
   cases hx;cases h with
   | tup _ vs h1 h2 =>
    obtain ⟨q1,q2⟩:=yY hM hA hk hL (us:=fun i=>vs.getD i undef) h2 hy hr
    exact .tup _ _ (by omega) q2
  ·cases hx
 ·rename_i hn
  refine aBo hM hA hk hL h hx (hr.imp id fun hr => ?_)
  unfold aXp at hr
  split at hr
  ·exfalso
   unfold aXm at hx
   split at hx
   ·split at hx
    ·cases hx
    ·exact aLp hx
   ·exact aLp hx
  ·exact hr

theorem xI{f:Nat}{args args':List AV}{r y:AV}{L:Upd}{base:Nat}(hm:jS args=true∧args'=args∨nQ M args=some args'∧aXp y=true∧aLm L=true)(hb:fK M base=true)
  (ho:aXn M1 base r=some (y,L)) (h:FMM P f args' [] r M1):FM P f args M y L:=by
 intro C w us hus hM n;obtain ⟨G,hG,hGs,hA,hus'⟩:∃ G:Nat→Prop,(∀ b,C.F b→G b)∧(∀ b,G b→b<w.heap.size)∧((∀ b,G b→C.F b)∨aXp y=true∧aLm L=true)∧dD (C.bare G) [] w args' us:=by
  rcases hm with ⟨hn,rfl⟩ | ⟨hv,hr1,hr2⟩
  ·refine ⟨C.F,fun _ h=>h,hM.Fs,.inl fun _ h=>h,?_⟩
   have:∀ {l:List AV} {us:List Value},jS l=true→dD C M w l us→dD (C.bare C.F) [] w l us:=by
    intro l
    induction l with
    | nil=>intro us _ h;cases h;exact .nil
    | cons x l ih =>
     intro us hn h;cases h with
     | cons _ u _ k hx hr =>
      have h0:=oS hn 0 (by simp)
      unfold jS at hn
      split at hn
      ·exact .cons _ _ _ _ (hx.noRef h0 (fun _ h=>h) (fun _ _=>rfl)) (ih hn hr)
      ·cases hn
   exact this hn hus
  ·refine ⟨fun b=>C.F b∨∃ (id:Nat) (o:AO),M[id]? = some (some o)∧o.live=true∧C.ι id=some b,fun _ h => .inl h,fun b h => ?_,.inr ⟨hr1,hr2⟩,?_⟩
   ·rcases h with h | ⟨id,o,h1,h2,h3⟩
    ·exact hM.Fs b h
    ·exact hM.lt id o b h1 h2 h3
   ·obtain ⟨q1,q2⟩:=lF (G:=fun b=>C.F b∨∃ (id:Nat) (o:AO),M[id]? = some (some o)∧o.live=true∧C.ι id=some b) hM (fun _ h => .inl h) (fun id o b h1 h2 h3 => .inr ⟨id,o,h1,h2,h3⟩) (us:=fun i=>us.getD i undef) (fun i hi=>hus.at i hi) hv
    have:=dD.ofArr (l:=args') (us:=us.toArray) (by simp [hus.len,q1]) (fun i hi=>by rw [cB];exact q2 i hi)
    exact this
 have hM0:aR P (C.bare G) [] w:=⟨fun _ _ _ _ h=>by simp at h,fun _ _ _ h=>by simp at h,fun _ _ _ h=>by simp at h,fun _ _ _ _ _ h=>by simp at h,fun _ _ _ h=>by simp at h,hGs,fun _ _ _ h=>by simp at h⟩
 refine (h (C.bare G) w us hus' hM0 n).mono ?_;rintro e w' ⟨u,rfl,C',hF,hM1,hr⟩;refine ⟨u,rfl,?_⟩;have hkeep:∀ b,b<w.heap.size→w'.heap[b]? = w.heap[b]? := fun b hb=>hF.keep b hb (fun id o h=>by simp at h)
 have hnew:∀ (id:Nat) (o:AO) (b:Nat),M1[id]? = some (some o)→o.live=true→C'.ι id=some b→w.heap.size≤b:=fun id o b h1 h2 h3=>by
  rcases hF.new id o b h1 h2 h3 with h4 | ⟨_,_,h4,_⟩
  ·exact h4
  ·simp at h4
 have hF2:∀ b,C'.F b→G b∨w.heap.size≤b:=fun b hb=>by
  rcases hF.F2 b hb with h4 | h4 | ⟨_,_,h4,_⟩
  ·exact .inl h4
  ·exact .inr h4
  ·simp at h4
 have hfree:=cP hb;unfold aXn at ho
 split at ho
 ·rename_i k hk
  split at ho
  ·rename_i q hq
   split at ho
   ·rename_i y' hy
    cases ho;have hok:=dL hq;have hmk:=pA hM1 (id:=k) false hok rfl;have hlk:=hM1.le (dE (C:=C') (w:=w') (id:=k) false hok rfl);obtain ⟨f1,m1⟩:=aLq (C:=C) (M:=M) (w:=w) (w':=w') (kb:=C'.ι k) hM hF.os hF.tape hF.out hF.size hkeep;have hAA:(∀ b,G b→C.F b)→(∀ b,(C'.close k false).F b→(C.after w w' (C'.ι k)).F b)∧∀ (id:Nat) (o:AO) (b:Nat),(upds M1 [(k,.dead)])[id]? = some (some o)→o.live=true→(C'.close k false).ι id=some b→(C.after w w' (C'.ι k)).F b:=by
     intro hGC;refine ⟨fun b hb => ?_,fun id o b h1 h2 h3 => ?_⟩
     ·have hb':C'.F b:=by rcases hb with hb | ⟨hb,_⟩;exact hb;cases hb
      rcases hF2 b hb' with h4 | h4
      ·exact .inl (hGC b h4)
      ·exact .inr ⟨h4,hM1.Fs b hb',fun e=>hM1.nF _ _ _ hok rfl e hb'⟩
     ·simp only [upds] at h1
      have hne:k≠id:=fun e=>by subst e;rw [aY] at h1;cases h1;cases h2
      have h1':=(aQ M1 k id _ _ hne).1 h1;exact .inr ⟨hnew id o b h1' h2 h3,hM1.lt id o b h1' h2 h3,fun e=>hne (hM1.inj _ _ _ _ _ hok rfl h1' h2 e h3)⟩
    cases hkb:C'.ι k with
    | none =>
     rw [hkb] at hAA f1 m1
     obtain ⟨hz,hcs⟩:q.2.1=0∧q.2.2=[]:=by
      rcases hM1.row _ _ _ _ hok with ⟨_,hz,hcs⟩ | ⟨b,_,_,hb,_⟩
      ·exact ⟨hz,hcs⟩
      ·rw [hkb] at hb;cases hb
     rw [hz,hcs];have m2:=wG (ty:=q.1) m1 hfree;have f2:=wF (ty:=q.1) (C:=C.after w w' none) (w:=w') hfree;have hle:=m1.le f2;refine ⟨_,f1.trans f2,m2,?_⟩;refine uK (C2:=(C.after w w' none).nil base) (M2:=upds M [(base,.row q.1 0 [])]) (A:=∀ b,G b→C.F b) hmk (fun h=>⟨fun b hb=>(hAA h).1 b hb,fun id o b h1 h2 h3=>(hAA h).2 id o b h1 h2 h3⟩) (fun v hv => ?_) hlk hr hy (hA.imp id (·.1))
     cases hv with
     | own _ _ h0 ha hrow =>
      rcases hrow _ _ _ hok with ⟨rfl,_,_⟩ | ⟨b,_,hb⟩
      ·exact .own base _ rfl ⟨_,aY ..⟩ (fun ty n cs h=>by simp only [upds] at h;rw [aY] at h;cases h;exact .inl ⟨rfl,by simp [Cx.nil],rfl⟩)
      ·rw [hkb] at hb;cases hb
    | some b =>
     rw [hkb] at hAA f1 m1
     rcases hM1.row _ _ _ _ hok with ⟨hn,_⟩ | ⟨b',arr,inf,hb',q1,q2,q3,q4,q5,q6,q7,q8⟩
     ·rw [hkb] at hn;cases hn
     rw [hkb] at hb';cases hb'
     have hbn:=hnew k _ b hok rfl hkb;have hbl:=hM1.lt k _ b hok rfl hkb;have hcell:∀ j (h:j<q.2.2.length),cN (C.after w w' (some b)).F w' q.2.2[j] (arr.getD j undef):=fun j hj=>by
      rcases hA with hGC | ⟨_,hr2⟩
      ·exact (q7 j hj).mono (fun b hb=>(hAA hGC).1 b (.inl hb)) (fun _ _=>rfl)
      ·simp only [aLm] at hr2
       split at hr2
       ·rename_i hcs
        exact (q7 j hj).rig (aBp hcs j hj)
       ·cases hr2
     obtain ⟨m2,hl2⟩:=bGf (base:=base) (b:=b) (k:=C'.κ k) (ty:=q.1) (n:=q.2.1) (cs:=q.2.2) m1 hfree (fun hF=>by
      rcases hF with hF | ⟨_,_,hF⟩
      ·have:=hM.Fs b hF;omega
      ·exact hF rfl) (fun i x j h1 h2 h3=>by have:=hM.lt i x j h1 h2 h3;omega) hbl ⟨arr,inf,q1,q2,q3,q4,q5,q6,hcell,q8⟩
     refine ⟨_,?_,m2,?_⟩
     ·have hne:∀ (i:Nat) (x:AO),M[i]? = some (some x)→i≠base:=fun i x h e=>hfree x (e ▸ h)
      refine ⟨f1.os,f1.tape,f1.out,f1.size,f1.keep,fun i x h=>⟨hl2.ids i x h,by simp [Cx.grow,Cx.after,hne i x h],by simp [Cx.grow,Cx.after,hne i x h]⟩,hl2.row,fun i x h o' h1 h2=>(hl2.liv i x h o' h1 h2).1,fun i x j h1 h2 h3 => ?_,f1.F1,f1.F2⟩
      by_cases e:i=base
      ·subst e
       simp only [Cx.grow,if_true] at h3
       cases h3;exact .inl hbn
      ·simp only [Cx.grow,e,if_false] at h3
       exact f1.new i x j ((aQ M base i _ _ (fun e'=>e e'.symm)).1 h1) h2 h3
     ·refine uK (C2:=(C.after w w' (some b)).grow base b (C'.κ k)) (M2:=upds M [(base,.row q.1 q.2.1 q.2.2)]) (A:=∀ b,G b→C.F b) hmk (fun h=>⟨fun b hb=>(hAA h).1 b hb,fun id o b h1 h2 h3=>(hAA h).2 id o b h1 h2 h3⟩) (fun v hv => ?_) hlk hr hy (hA.imp id (·.1))
      cases hv with
      | own _ _ h0 ha hrow =>
       rcases hrow _ _ _ hok with ⟨_,hn,_⟩ | ⟨b',rfl,hb⟩
       ·rw [hkb] at hn;cases hn
       ·rw [hkb] at hb;cases hb
        exact .own base _ rfl ⟨_,aY ..⟩ (fun ty n cs h=>by simp only [upds] at h;rw [aY] at h;cases h;exact .inr ⟨b,by simp [Cx.grow],by simp [Cx.grow]⟩)
   ·cases ho
  ·cases ho
 ·rename_i hk
  split at ho
  ·rename_i y' hy
   cases ho;obtain ⟨f1,m1⟩:=aLq (C:=C) (M:=M) (w:=w) (w':=w') (kb:=none) hM hF.os hF.tape hF.out hF.size hkeep;refine ⟨_,f1,m1,?_⟩;refine uK (C2:=C.after w w' none) (M2:=upds M []) (A:=∀ b,G b→C.F b) hM1 (fun hGC=>⟨fun b hb => ?_,fun id o b h1 h2 h3 => .inr ⟨hnew id o b h1 h2 h3,hM1.lt id o b h1 h2 h3,nofun⟩⟩) (fun v hv => ?_) ⟨fun i o h=>⟨o,h⟩,fun _ _ _ _ _ cs h=>⟨cs,h⟩,fun _ o h o' h' hl=>by rw [h] at h';cases h';exact ⟨hl,rfl,rfl⟩,fun _ h=>h,fun _ _=>rfl⟩ hr hy (hA.imp id (·.1))
   ·rcases hF2 b hb with h4 | h4
    ·exact .inl (hGC b h4)
    ·exact .inr ⟨h4,hM1.Fs b hb,nofun⟩
   ·cases hv with
    | own _ _ h0 ha hrow =>
     obtain ⟨o,ho⟩:=ha;rw [List.getElem?_eq_none (dM _)] at ho
     cases ho
  ·cases ho
end
section
variable {P:Program} {T:TT} {E:Env} {C C':Cx} {M M1 M2:Mem} {w w':World}

def s0:AS:={ auto:=true,o:=[],obs:=[] }

end
section
variable {P:Program} {T:TT} {E:Env} {C C0:Cx} {M M0:Mem} {w w0:World}

def aH(P:Program)(k:Nat)(b:Code)(st:St)(e:Ex)(st':St):Prop:=∀ (C0:Cx) (M0:Mem) (w0:World) (a:Act) (w:World),M0.length≤k→Sim P C0 M0 w0 st a w→∀ (ro:Option Nat),lO ro b→∀ (n:Nat),LoopIn (Fen ro) n P b (fun e' a' w'=>e'=e.toExit∧Sim P C0 M0 w0 st' a' w') a w

section
variable {k:Nat} {b:Code} {st st1 st':St} {e:Ex}
theorem aH.step(h:aC P k b st .normal st1)(hr:aH P k b st1 e st'):aH P k b st e st':=fun C0 M0 w0 a w hk hs ro hro n=>LoopIn.step (wpIn_mono (h C0 M0 w0 a w hk hs ro hro n) fun e' a' w' hq=>by
 obtain ⟨rfl,hs'⟩:=hq;exact hr C0 M0 w0 a' w' hk hs' ro hro n)
theorem aH.exit(h:aC P k b st e st')(he:e ≠ .normal):aH P k b st e st':=fun C0 M0 w0 a w hk hs ro hro n=>LoopIn.step (wpIn_mono (h C0 M0 w0 a w hk hs ro hro n) fun e' a' w' hq=>by
 obtain ⟨rfl,hs'⟩:=hq;cases e with
 | normal=>exact absurd rfl he
 | ret=>exact ⟨rfl,hs'⟩
 | exit id=>exact ⟨rfl,hs'⟩)
theorem aH.code(h:aH P k b st e st'):aC P k (.loop b) st e st':=fun C0 M0 w0 a w hk hs ro hro n=>LoopIn.wp (h C0 M0 w0 a w hk hs ro hro.loop n)
theorem aH.range{α β:Type}(S:Nat→β→St)(R:β→St)(f:β→α→β)(Inv:Nat→β→Prop)(he:e ≠ .normal)(l:List α){a0:β}(h0:Inv 0 a0)
  (hs:∀ (i:Nat) (x:α) (acc:β),l[i]? = some x→Inv i acc→Inv (i+1) (f acc x)∧aC P k b (S i acc) .normal (S (i+1) (f acc x)))
  (hx:∀ acc,Inv l.length acc→aC P k b (S l.length acc) e (R acc)):aH P k b (S 0 a0) e (R (l.foldl f a0)):=by
 have key:∀ (r:List α) (i:Nat) (acc:β),l.drop i=r→i≤l.length→Inv i acc→aH P k b (S i acc) e (R (r.foldl f acc)):=by
  intro r
  induction r with
  | nil =>
   intro i acc hd hi hI;have:i=l.length:=by have:=congrArg List.length hd;simp at this;omega
   subst this;exact .exit (hx _ hI) he
  | cons x r ih =>
   intro i acc hd hi hI;have hl:l[i]? = some x:=by
    have:=congrArg (·[0]?) hd
    simpa using this
   obtain ⟨h1,h2⟩:=hs i x acc hl hI;have hlt:i<l.length:=(kQ3.1 hl).1;refine .step h2 (ih (i+1) _ ?_ (by omega) h1)
   have:=congrArg List.tail hd;simpa [List.tail_drop] using this
 exact key l 0 a0 (by simp) (Nat.zero_le _) h0

end

def FV(P:Program)(f:Nat)(args:List AV)(base:Nat)(y:AV)(L:Upd):Prop:=∃ r M1,FMM P f args [] r M1∧aXn M1 base r=some (y,L)

theorem FV.fc{f base:Nat}{args:List AV}{y:AV}{L:Upd}{bs:List (Nat × AO)}(h:FV P f args base y L)(hn:jS args=true):FC P f args bs base y L:=fun M _ hb _=>by
 obtain ⟨r,M1,h1,h2⟩:=h;exact xI (.inl ⟨hn,rfl⟩) hb h2 h1

def aPl(m M:Mem):Prop:=∀ (id:Nat) (o:AO),bV m id=some o→bV M id=some o
section
variable {m:Mem}
theorem aIj(hs:aPl m M){id:Nat}{r:Nat × Nat × List PV}(h:fV m id=some r):fV M id=some r:=by
 have:=bE.2 (dL h);unfold fV;rw [hs _ _ this]
theorem aXl(hs:aPl m M){x:AV}{y:PV}(h:view1 m x=some y):view1 M x=some y:=by
 unfold view1 at h ⊢
 split at h
 ·exact h
 ·exact h
 ·split at h
  ·rename_i hr
   rw [aIj hs hr];exact h
  ·cases h
 ·cases h
theorem aGc(hs:aPl m M):∀ {l:List AV} {ys:List PV},aCl m l=some ys→aCl M l=some ys
 | [],_,h=>h
 | x::r,ys,h=>by
  unfold aCl at h ⊢
  split at h
  ·rename_i h1
   split at h
   ·rename_i h2
    rw [aXl hs h1,aGc hs h2];exact h
   ·cases h
  ·cases h
mutual
theorem bGc(hs:aPl m M):∀ {x y:AV},view m x=some y→view M x=some y
 | .p x,y,h=>by simp only [view] at h ⊢;exact h
 | .kb b,y,h=>by simp only [view] at h ⊢;exact h
 | .any,y,h=>by simp only [view] at h ⊢;exact h
 | .yld l,y,h=>by simp only [view] at h ⊢;exact h
 | .rp cs o,y,h=>by simp only [view] at h ⊢;exact h
 | .own id,y,h=>by
  simp only [view] at h ⊢
  split at h
  ·rename_i hr
   rw [aIj hs hr];exact h
  ·cases h
 | .arr id off n,y,h=>by
  simp only [view] at h ⊢
  split at h
  ·rename_i hr
   rw [aIj hs hr];exact h
  ·cases h
 | .ptr id off,y,h=>by
  simp only [view] at h ⊢
  split at h
  ·rename_i hr
   rw [hs _ _ hr];exact h
  ·rename_i hr
   rw [hs _ _ hr]
   split at h
   ·rename_i hc
    simp only [aGc hs hc];exact h
   ·cases h
  ·cases h
 | .agg l,y,h=>by
  simp only [view] at h ⊢
  split at h
  ·rename_i hr
   rw [oR hs hr];exact h
  ·cases h
 | .fn f a b,y,h=>by
  simp only [view] at h ⊢
  split at h
  ·rename_i ha
   split at h
   ·rename_i hb
    rw [oR hs ha,oR hs hb];exact h
   ·cases h
  ·cases h
 | .tup l,y,h=>by simp [view] at h
 | .mp i,y,h=>by simp [view] at h
theorem oR(hs:aPl m M):∀ {l ys:List AV},nQ m l=some ys→nQ M l=some ys
 | [],_,h=>by simp only [nQ] at h ⊢;exact h
 | x::r,ys,h=>by
  simp only [nQ] at h ⊢
  split at h
  ·rename_i h1
   split at h
   ·rename_i h2
    rw [bGc hs h1,oR hs h2];exact h
   ·cases h
  ·cases h
end
end
theorem rA:∀ (bs:Upd) (m:Mem) (id:Nat) (o:AO),bV (upds m bs) id=some o→(id,o)∈bs∨bV m id=some o
 | [],_,_,_,h => .inr h
 | (i,x)::r,m,id,o,h=>by
  rcases rA r _ id o h with h1 | h1
  ·exact .inl (kQ6 _ h1)
  ·rw [cX] at h1
   split at h1
   ·rename_i e
    subst e;cases h1;exact .inl (gY ..)
   ·exact .inr h1
theorem FV.view{f base:Nat}{args args':List AV}{y:AV}{L:Upd}{bs:List (Nat × AO)}(h:FV P f args' base y L)(hv:nQ (upds [] bs) args=some args')(h1:aXp y=true)(h2:aLm L=true):FC P f args bs base y L:=fun M hb hf _=>by
 obtain ⟨r,M1,h3,h4⟩:=h;refine xI (.inr ⟨oR (fun id o ho => ?_) hv,h1,h2⟩) hf h4 h3
 rcases rA bs [] id o ho with h5 | h5
 ·exact hb _ h5
 ·simp [bV] at h5
end
section
noncomputable abbrev Tp:=Tryz.prog

inductive Tr (α:Type) where
 | nil
 | node (v:Option α) (l r:Tr α)
def Tr.get{α:Type}:Tr α→Nat→Option α
 | .nil,_=>none
 | .node v l r,k=>match Nat.beq k 0 with
  | true=>v
  | false=>match Nat.beq (Nat.mod k 2) 1 with
   | true=>l.get (Nat.div k 2)
   | false=>r.get (Nat.sub (Nat.div k 2) 1)
def Tr.all{α:Type}(f:Nat→Nat):Tr α→List (Nat × α)
 | .nil=>[]
 | .node v l r=>(match v with | some x=>[(f 0,x)] | none=>[])++l.all (fun k=>f (2*k+1))++r.all (fun k=>f (2*k+2))
theorem Tr.get_all{α:Type}:∀ (t:Tr α) (f:Nat→Nat) (k:Nat) (x:α),t.get k=some x→(f k,x)∈t.all f
 | .nil,_,_,_,h=>by cases h
 | .node v l r,f,k,x,h=>by
  unfold Tr.get at h
  unfold Tr.all
  split at h
  ·rename_i hb
   have hk:=Nat.eq_of_beq_eq_true hb;subst hk;subst h;exact nZ _ (nZ _ (gY ..))
  ·rename_i hb
   have hk:=Nat.ne_of_beq_eq_false hb
   split at h
   ·rename_i h1
    have h1:k % 2=1:=Nat.eq_of_beq_eq_true h1;have:=Tr.get_all l (fun k=>f (2*k+1)) _ x h
    refine nZ _ (aDf _ ?_);have e:2*(k / 2)+1=k:=by omega
    have e':2*Nat.div k 2+1=k:=e;simp only [e'] at this
    exact this
   ·rename_i h1
    have h1:k % 2≠1:=Nat.ne_of_beq_eq_false h1;have:=Tr.get_all r (fun k=>f (2*k+2)) _ x h
    refine aDf _ ?_;have e:2*(k / 2-1)+2=k:=by omega
    have e':2*Nat.sub (Nat.div k 2) 1+2=k:=e;simp only [e'] at this
    exact this

abbrev tw0:Option TI:=some ⟨.func,1,8,[.nilFunc],true⟩
abbrev tw1:Option TI:=some ⟨.int .i64,1,8,[.int .i64 0],true⟩
abbrev tw2:Option TI:=some ⟨.int .u8,1,1,[.int .u8 0],true⟩
abbrev tw3:Option TI:=some ⟨.int .u64,1,8,[.int .u64 0],true⟩
abbrev tw4:Option TI:=some ⟨.struct [(0,3,true),(1,3,true)],2,16,[.int .i64 0,.int .i64 0],true⟩
abbrev tw5:Option TI:=some ⟨.struct [(0,3,true),(1,3,true),(2,3,true)],3,24,[.int .i64 0,.int .i64 0,.int .i64 0],true⟩
abbrev tw6:Option TI:=some ⟨.str,1,16,[.string { data := #[] }],true⟩
abbrev tw7:Option TI:=some ⟨.int .i32,1,4,[.int .i32 0],true⟩
abbrev tw8:Option TI:=some ⟨.struct [(0,2,true),(1,3,true),(2,4,true),(3,6,true)],4,24,[.int .i64 0,.int .i64 0,.bool false,.int .u8 0],true⟩
abbrev tw9:Option TI:=some ⟨.struct [(0,26,true),(3,173,true),(4,174,true)],5,72,[.int .i64 0,.slice none 0 0,.slice none 0 0,.map none,.map none],true⟩
abbrev tw10:Option TI:=some ⟨.struct [(0,3,true),(1,3,true),(2,3,true),(3,3,true),(4,3,true),(5,3,true)],6,48,.int .i64 0::List.replicate 5 (.int .i64 0),true⟩
abbrev tw11:Option TI:=some ⟨.struct [(0,17,true)],1,8,[.pointer none],false⟩
abbrev tw12:Option TI:=some ⟨.struct [(0,192,true),(1,193,true)],3,40,[.slice none 0 0,.int .i64 0,.int .i64 0],true⟩
abbrev tw13:Option TI:=some ⟨.struct [(0,125,true)],1,8,[.nilFunc],true⟩
abbrev tw14:Option TI:=some ⟨.struct [(0,12,true),(1,12,true),(2,127,true),(3,268,true),(4,5,true),(5,5,true),(6,269,true),(7,270,true),(8,271,true),(9,272,true),(10,273,true)],11,48,[.int .u64 0,.int .u64 0,.int .u32 0,.int .u8 0,.int .u8 0,.int .u8 0,.int .u8 0,.nilFunc,.pointer none,.int .i32 0,.int .i32 0],false⟩
abbrev tw15:Option TI:=some ⟨.struct [(0,3,true),(1,42,true),(2,3,true),(3,3,true),(4,3,true),(5,3,true)],6,48,.int .i64 0::List.replicate 5 (.int .i64 0),true⟩
abbrev tw16:Option TI:=some ⟨.struct [(0,124,true),(1,136,true),(2,124,true),(3,137,true),(4,136,true)],5,40,.nilFunc::List.replicate 4 (.nilFunc),true⟩
abbrev tw17:Option TI:=some ⟨.struct [(0,22,true),(1,3,true),(2,127,true)],3,40,[.slice none 0 0,.int .i64 0,.int .u32 0],true⟩
abbrev tw18:Option TI:=some ⟨.struct [(0,3,true),(1,23,true),(2,24,true)],3,56,[.int .i64 0,.slice none 0 0,.slice none 0 0],true⟩
abbrev tw19:Option TI:=some ⟨.struct [(0,4,true),(1,4,true),(2,4,true),(3,4,true),(4,3,true),(5,3,true),(6,3,true)],7,32,[.bool false,.bool false,.bool false,.bool false,.int .i64 0,.int .i64 0,.int .i64 0],true⟩
abbrev tw20:Option TI:=some ⟨.struct [(0,3,true),(1,4,true),(2,33,true)],3,40,[.int .i64 0,.bool false,.slice none 0 0],true⟩
abbrev tw21:Option TI:=some ⟨.struct [(0,3,true),(1,58,true),(2,59,true)],3,56,[.int .i64 0,.slice none 0 0,.slice none 0 0],true⟩
def tTr:Tr TI := .node none (.node tw0 (.node tw1 (.node tw8 (.node (some ⟨.ptr 263,1,8,[.pointer none],true⟩) (.node tw4 (.node tw0 (.node (some ⟨.int .u32,1,4,[.int .u32 0],true⟩) (.node tw0 .nil .nil) .nil) (.node (some ⟨.ptr 197,1,8,[.pointer none],true⟩) .nil .nil)) (.node tw0 (.node tw0 .nil .nil) (.node tw0 .nil .nil))) (.node tw5 (.node tw0 (.node tw0 (.node (some ⟨.ptr 5,1,8,[.pointer none],true⟩) .nil .nil) .nil) (.node (some ⟨.map 3 4,1,8,[.map none],true⟩) .nil .nil)) (.node tw0 (.node tw9 .nil .nil) (.node tw0 .nil .nil)))) (.node (some ⟨.slice 31,1,24,[.slice none 0 0],true⟩) (.node none (.node (some ⟨.slice 76,1,24,[.slice none 0 0],true⟩) (.node tw0 .nil .nil) (.node tw0 .nil .nil)) (.node none .nil (.node tw0 .nil .nil))) (.node tw0 (.node tw0 (.node tw0 .nil .nil) (.node tw0 .nil .nil)) (.node tw10 (.node tw0 .nil .nil) (.node tw0 .nil .nil))))) (.node tw6 (.node tw11 (.node none (.node tw0 (.node none (.node tw0 .nil .nil) .nil) (.node tw12 .nil .nil)) (.node none (.node tw0 .nil .nil) (.node tw13 .nil .nil))) (.node tw0 (.node tw0 (.node tw0 (.node tw14 .nil .nil) .nil) .nil) (.node tw0 (.node tw0 .nil .nil) (.node tw0 .nil .nil)))) (.node tw0 (.node tw15 (.node tw0 (.node tw16 (.node tw0 .nil .nil) .nil) (.node tw0 .nil .nil)) (.node tw0 (.node tw0 .nil .nil) (.node tw0 .nil .nil))) (.node (some ⟨.slice 119,1,24,[.slice none 0 0],true⟩) (.node tw0 (.node tw0 .nil .nil) (.node tw0 .nil .nil)) (.node tw0 .nil (.node tw0 .nil .nil)))))) (.node tw2 (.node tw6 (.node (some ⟨.ptr 275,1,8,[.pointer none],true⟩) (.node (some ⟨.slice 3,1,24,[.slice none 0 0],true⟩) (.node tw0 (.node tw17 (.node (some ⟨.ptr 245,1,8,[.pointer none],true⟩) .nil .nil) .nil) (.node (some ⟨.array 2 3,2,16,[.int .i64 0,.int .i64 0],true⟩) .nil .nil)) (.node tw0 (.node tw0 .nil .nil) (.node tw3 .nil .nil))) (.node tw0 (.node tw0 (.node tw0 (.node tw7 .nil .nil) .nil) (.node tw0 .nil .nil)) (.node tw0 (.node tw0 .nil .nil) (.node tw0 .nil .nil)))) (.node tw18 (.node tw0 (.node tw4 (.node tw0 (.node (some ⟨.struct [(0,264,false)],0,0,[],false⟩) .nil .nil) .nil) (.node tw0 .nil .nil)) (.node tw0 (.node tw0 .nil .nil) (.node tw0 .nil .nil))) (.node tw0 (.node tw0 (.node tw0 .nil .nil) (.node tw1 .nil .nil)) (.node tw19 (.node (some ⟨.slice 4,1,24,[.slice none 0 0],true⟩) .nil .nil) (.node (some ⟨.ptr 3,1,8,[.pointer none],true⟩) .nil .nil))))) (.node none (.node tw7 (.node tw0 (.node (some ⟨.slice 33,1,24,[.slice none 0 0],true⟩) (.node tw0 (.node tw0 .nil .nil) .nil) (.node tw20 .nil .nil)) (.node tw0 (.node tw0 .nil .nil) (.node tw0 .nil .nil))) (.node tw0 (.node tw0 (.node tw0 .nil .nil) (.node tw0 .nil .nil)) (.node tw0 .nil (.node tw3 .nil .nil)))) (.node tw0 (.node tw0 (.node tw0 (.node tw0 (.node tw2 .nil .nil) .nil) (.node tw0 .nil .nil)) (.node tw0 (.node (some ⟨.map 3 44,1,8,[.map none],true⟩) .nil .nil) (.node tw0 .nil .nil))) (.node tw21 (.node tw0 (.node tw0 .nil .nil) (.node tw0 .nil .nil)) (.node tw0 .nil (.node tw0 .nil .nil))))))) (.node tw1 (.node (some ⟨.bool,1,1,[.bool false],true⟩) (.node tw8 (.node (some ⟨.ptr 266,1,8,[.pointer none],true⟩) (.node tw0 (.node tw0 (.node tw17 (.node tw0 .nil .nil) .nil) (.node (some ⟨.slice 197,1,24,[.slice none 0 0],true⟩) .nil .nil)) (.node tw0 (.node tw0 .nil .nil) (.node tw0 .nil .nil))) (.node tw5 (.node tw0 (.node tw0 (.node tw7 .nil .nil) .nil) (.node tw0 .nil .nil)) (.node none (.node tw9 .nil .nil) (.node tw0 .nil .nil)))) (.node (some ⟨.slice 44,1,24,[.slice none 0 0],true⟩) (.node tw0 (.node tw0 (.node tw0 (.node (some ⟨.array 0 16,0,0,[],true⟩) .nil .nil) .nil) (.node tw0 .nil .nil)) (.node tw0 (.node tw0 .nil .nil) (.node tw0 .nil .nil))) (.node tw0 (.node tw0 (.node tw0 .nil .nil) (.node tw0 .nil .nil)) (.node tw19 .nil (.node tw0 .nil .nil))))) (.node tw3 (.node none (.node tw0 (.node (some ⟨.slice 71,1,24,[.slice none 0 0],true⟩) (.node tw0 (.node tw0 .nil .nil) .nil) (.node tw20 .nil .nil)) (.node tw0 (.node tw0 .nil .nil) (.node (some ⟨.array 5 227,5,40,.nilFunc::List.replicate 4 (.nilFunc),true⟩) .nil .nil))) (.node (some ⟨.int .u16,1,2,[.int .u16 0],true⟩) (.node tw0 (.node tw0 .nil .nil) (.node tw0 .nil .nil)) (.node (some ⟨.slice 121,1,24,[.slice none 0 0],true⟩) (.node tw0 .nil .nil) (.node tw0 .nil .nil)))) (.node (some ⟨.ptr 129,1,8,[.pointer none],true⟩) (.node tw15 (.node tw5 (.node tw0 (.node tw2 .nil .nil) .nil) (.node tw0 .nil .nil)) (.node tw0 (.node tw3 .nil .nil) (.node tw0 .nil .nil))) (.node tw21 (.node none (.node tw0 .nil .nil) (.node tw0 .nil .nil)) (.node tw0 (.node tw0 .nil .nil) (.node tw0 .nil .nil)))))) (.node tw2 (.node tw6 (.node tw11 (.node tw1 (.node tw0 (.node (some ⟨.ptr 176,1,8,[.pointer none],true⟩) (.node tw0 .nil .nil) .nil) (.node tw12 .nil .nil)) (.node tw0 (.node tw0 .nil .nil) (.node tw13 .nil .nil))) (.node tw0 (.node none (.node tw0 (.node tw14 .nil .nil) .nil) .nil) (.node tw0 (.node tw0 .nil .nil) (.node tw0 .nil .nil)))) (.node tw18 (.node tw1 (.node none (.node tw16 (.node (some ⟨.struct [(0,264,false)],0,0,[],false⟩) .nil .nil) .nil) (.node tw0 .nil .nil)) (.node none (.node tw0 .nil .nil) (.node tw0 .nil .nil))) (.node (some ⟨.slice 73,1,24,[.slice none 0 0],true⟩) (.node tw0 (.node tw0 .nil .nil) .nil) (.node tw0 (.node (some ⟨.slice 195,1,24,[.slice none 0 0],true⟩) .nil .nil) (.node tw0 .nil .nil))))) (.node none (.node (some ⟨.slice 5,1,24,[.slice none 0 0],true⟩) (.node (some ⟨.slice 48,1,24,[.slice none 0 0],true⟩) (.node tw0 (.node tw0 .nil .nil) .nil) (.node tw0 (.node tw0 .nil .nil) (.node tw0 .nil .nil))) (.node (some ⟨.ptr 44,1,8,[.pointer none],true⟩) (.node tw0 (.node tw0 .nil .nil) (.node tw0 .nil .nil)) (.node tw10 (.node tw0 .nil .nil) (.node tw0 .nil .nil)))) (.node tw4 (.node tw0 (.node tw0 (.node tw0 (.node tw0 .nil .nil) .nil) (.node tw0 .nil .nil)) (.node tw0 (.node (some ⟨.map 3 24,1,8,[.map none],true⟩) .nil .nil) (.node tw0 .nil .nil))) (.node tw0 (.node tw0 (.node tw0 .nil .nil) (.node tw0 .nil .nil)) (.node tw0 (.node tw0 .nil .nil) (.node tw0 .nil .nil)))))))
def tT:TT:=tTr.get

set_option maxRecDepth 100000 in
theorem bTc:(tTr.all id).map (fun p=>cJ Tryz.prog p.1)=(tTr.all id).map fun p=>some p.2:=by kernel_rfl
theorem aHf:∀ t i,tT t=some i→cJ Tryz.prog t=some i:=fun t i h=>by
 have h1:=Tr.get_all tTr id t i h;obtain ⟨j,hj,hx⟩:=List.getElem_of_mem h1;have h2:=congrArg (fun l=>l[j]?) bTc
 simp only [jA,kQ0 hj,hx,Option.map_some,id,Option.some.injEq] at h2
 exact h2

def okF(P:Program)(f:Nat):Bool:=match P.funcs[f]? with
 | some fn => !(fn.name == "runtime.NumGoroutine") && fn.body.isSome
 | none=>false
theorem bMz{P:Program}{f:Nat}(h:okF P f=true)(args:Array Value)(w:World):(callFunc f args).run P w = .ok (.enter f args) w:=by
 unfold okF at h
 split at h
 ·rename_i fn hf
  simp only [kQ7,Bool.not_eq_true'] at h
  have hn : ¬ fn.name = "runtime.NumGoroutine" := by simpa using h.1
  have hb:¬ fn.body=none:=fun e=>by rw [e] at h;cases h.2
  unfold callFunc;simp [hf,hn,hb]
 ·cases h
def ok(f:Nat):Bool:=match Nat.ble 2 f with
 | true=>Nat.ble f 228
 | false=>false
set_option maxRecDepth 100000 in
theorem bTd:((List.range 229).drop 2).all (okF Tryz.prog)=true:=by kernel_rfl
theorem bTe:∀ f,ok f=true→∀ args w,(callFunc f args).run Tryz.prog w = .ok (.enter f args) w:=fun f h=>by
 unfold ok at h
 split at h
 ·rename_i h2
  have h2:=Nat.le_of_ble_eq_true h2;have h3:=Nat.le_of_ble_eq_true h;have:=bTd;rw [gA] at this
  refine bMz (this f ?_);rw [List.mem_iff_getElem];exact ⟨f-2,by simp;omega,by simp;omega⟩
 ·cases h
theorem mixed:Tryz.prog.follows .mixedOrders=true:=by kernel_rfl
end
section
variable {P:Program} {T:TT} {E:Env} {C C0:Cx} {M M0 M1:Mem} {w w0:World}

def bkI(ids:List Nat)(base j:Nat):Option Nat:=match ids[j]? with
 | some i=>some i
 | none=>match Nat.beq j ids.length with
  | true=>some base
  | false=>none
def oA(ids:List Nat)(base:Nat):List Nat→Mem→Option Upd
 | i::r,some o::m=>match mpO (bkI ids base) o with
  | some o'=>(oA ids base r m).map ((i,o') :: ·)
  | none=>none
 | [],[]=>some []
 | [],[some o]=>match mpO (bkI ids base) o with
  | some o'=>some [(base,o')]
  | none=>none
 | _,_=>none

theorem aHg{ids0:List Nat}{base:Nat}:∀ {ids:List Nat} {m:Mem} {L:Upd},oA ids0 base ids m=some L→ids.Nodup→base∉ids →
  (m.length=ids.length∨m.length=ids.length+1) ∧
  ∀ (N:Mem),(∀ (p i:Nat) (o':AO),ids[p]? = some i→(bV (upds N L) i=some o'↔∃ o,m[p]? = some (some o)∧mpO (bkI ids0 base) o=some o')) ∧
   (m.length=ids.length+1→∀ (o':AO),(bV (upds N L) base=some o'↔∃ o,m[ids.length]? = some (some o)∧mpO (bkI ids0 base) o=some o')) ∧
   (m.length=ids.length→bV (upds N L) base=bV N base) ∧
   ∀ j,j∉ids→j≠base→bV (upds N L) j=bV N j
 | [],[],L,h,_,_=>by
  unfold oA at h;cases h
  refine ⟨.inl rfl,fun N=>⟨fun p i o' hp=>by simp at hp,fun h=>by simp at h,fun _=>rfl,fun _ _ _=>rfl⟩⟩
 | [],[some o],L,h,_,_=>by
  unfold oA at h
  split at h
  ·rename_i o' ho
   cases h;refine ⟨.inr rfl,fun N=>⟨fun p i o' hp=>by simp at hp,fun _ o2 => ?_,fun h=>by simp at h,fun j _ hj => ?_⟩⟩
   ·simp only [upds]
    rw [cX,if_pos rfl];constructor
    ·intro h;cases h;exact ⟨o,rfl,ho⟩
    ·rintro ⟨o3,h3,h4⟩
     simp at h3;subst h3
     rw [ho] at h4;exact h4
   ·simp only [upds]
    rw [cX,if_neg (Ne.symm hj)]
  ·cases h
 | i::r,some o::m,L,h,hd,hb=>by
  unfold oA at h
  split at h
  ·rename_i o' ho
   simp only [kL] at h
   obtain ⟨L',hL',rfl⟩:=h;obtain ⟨hd1,hd2⟩:=List.nodup_cons.1 hd;have hb1:base≠i:=fun e=>hb (by simp [e])
   have hb2:base∉r:=fun e=>hb (kQ6 _ e)
   obtain ⟨q1,q2⟩:=aHg (ids:=r) hL' hd2 hb2;refine ⟨by simpa using q1,fun N => ?_⟩
   obtain ⟨r1,r2,r3,r4⟩:=q2 (aZ N i (some o'));refine ⟨fun p j o2 hp => ?_,fun hl o2 => ?_,fun hl => ?_,fun j hj hne => ?_⟩
   ·cases p with
    | zero =>
     simp at hp;subst hp
     simp only [upds];rw [r4 i hd1 (Ne.symm hb1),cX,if_pos rfl];constructor
     ·intro h;cases h;exact ⟨o,rfl,ho⟩
     ·rintro ⟨o3,h3,h4⟩
      simp at h3;subst h3
      rw [ho] at h4;exact h4
    | succ p =>
     simp only [upds];rw [List.getElem?_cons_succ] at hp
     rw [r1 p j o2 hp];rfl
   ·have:=r2 (by simpa using hl) o2
    simpa [upds] using this
   ·simp only [upds]
    rw [r3 (by simpa using hl),cX,if_neg (Ne.symm hb1)]
   ·simp only [upds]
    rw [r4 j (fun e=>hj (kQ6 _ e)) hne,cX,if_neg (fun e=>hj (by simp [e]))]
  ·cases h
 | [],none::_,L,h,_,_=>by unfold oA at h;cases h
 | [],some _::_::_,L,h,_,_=>by unfold oA at h;cases h
 | _::_,[],L,h,_,_=>by unfold oA at h;cases h
 | _::_,none::_,L,h,_,_=>by unfold oA at h;cases h

theorem aDh{ids0:List Nat}{base:Nat}:∀ {ids:List Nat} {m:Mem} {L:Upd},oA ids0 base ids m=some L→∀ (p:Nat) (o1:AO),m[p]? = some (some o1)→∃ o',mpO (bkI ids0 base) o1=some o'
 | [],[],L,h,p,o1,hp=>by simp at hp
 | [],[some o],L,h,p,o1,hp=>by
  unfold oA at h
  split at h
  ·rename_i hx
   cases p with
   | zero=>simp at hp;subst hp;exact ⟨_,hx⟩
   | succ p=>simp at hp
  ·cases h
 | i::r,some o::m,L,h,p,o1,hp=>by
  unfold oA at h
  split at h
  ·rename_i hx
   simp only [kL] at h
   obtain ⟨L',hL',_⟩:=h;cases p with
   | zero=>simp at hp;subst hp;exact ⟨_,hx⟩
   | succ p=>exact aDh hL' p o1 (by simpa using hp)
  ·cases h
 | [],none::_,L,h,_,_,_=>by unfold oA at h;cases h
 | [],some _::_::_,L,h,_,_,_=>by unfold oA at h;cases h
 | _::_,[],L,h,_,_,_=>by unfold oA at h;cases h
 | _::_,none::_,L,h,_,_,_=>by unfold oA at h;cases h

def Cx.back(C C1:Cx)(ids:List Nat)(base:Nat):Cx :=
 {ι:=fun j=>match idx ids j 0 with | some p=>C1.ι p | none=>if j=base then C1.ι ids.length else C.ι j
  κ:=fun j=>match idx ids j 0 with | some p=>C1.κ p | none=>if j=base then C1.κ ids.length else C.κ j
  F:=C1.F }
theorem qA:∀ {ids:List Nat},ids.Nodup→∀ {p i:Nat} (n:Nat),ids[p]? = some i→idx ids i n=some (n+p)
 | [],_,p,i,n,h=>by simp at h
 | a::r,hd,p,i,n,h=>by
  obtain ⟨h1,h2⟩:=List.nodup_cons.1 hd;unfold idx;cases p with
  | zero=>simp at h;subst h;simp
  | succ p =>
   rw [List.getElem?_cons_succ] at h
   have hne:a≠i:=fun e=>h1 (e ▸ kQ5 h)
   have hb:Nat.beq a i=false:=by
    cases hq:Nat.beq a i with
    | false=>rfl
    | true=>exact absurd (Nat.eq_of_beq_eq_true hq) hne
   rw [hb];have:=qA h2 (n+1) h;simp only [this]
   congr 1;omega

theorem aJk{f:Nat→Option Nat}{C':Cx}{M':Mem}(hm:aXt f C C' M M'):∀ {l ys:List AV} {us:List Value},dD C M w l us→mpL f l=some ys→dD C' M' w ys us
 | [],ys,us,h,hr=>by cases h;simp only [mpL] at hr;cases hr;exact .nil
 | x::r,ys,us,h,hr=>by
  cases h with
  | cons _ u _ k hx hk =>
   simp only [mpL] at hr
   split at hr
   ·rename_i y hy
    simp only [kL] at hr
    obtain ⟨r',hr',rfl⟩:=hr;exact .cons _ _ _ _ (sR hm hx hy) (aJk hm hk hr')
   ·cases hr

theorem bNa{base:Nat}{ids:List Nat}{r y:AV}{L:Upd}{C1:Cx}{w':World}{u:Value}(hd:distinct 0 ids=true)(hb:fK M base=true)
  (hs:rnM 0 ids (ids.map (at? M))=some M0) (hlv:∀ i∈ids,eJ M i=true) (hU:oA ids base ids M1=some L) (hy:mpA (bkI ids base) r=some y)
  (hM:aR P C M w) (hF:Fr (C.rn 0 ids) M0 w C1 M1 w') (hM1:aR P C1 M1 w') (hr:Rep C1 M1 w' r u):Fr C M w (C.back C1 ids base) (upds M L) w'∧aR P (C.back C1 ids base) (upds M L) w'∧Rep (C.back C1 ids base) (upds M L) w' y u:=by
 obtain ⟨_,hnd⟩:=iX hd;obtain ⟨hM0,hmp,hsrc⟩:=rC (k:=0) hM hd hs;have hlen:M0.length=ids.length:=by have:=(aBt hs).1;simpa using this
 have hbn:base∉ids:=fun hm=>by
  obtain ⟨o,h1,_⟩:=dQ (hlv _ hm);exact cP hb o h1
 obtain ⟨hl1,hup⟩:=aHg hU hnd hbn;obtain ⟨u1,u2,u3,u4⟩:=hup M;have hL:=hM0.le hF;have srcp:∀ p i,ids[p]? = some i→nH 0 ids p=some i:=fun p i h=>by simp [nH,h]
 have rnp:∀ p i,ids[p]? = some i→rnI 0 ids i=some p:=fun p i h=>by
  have:=qA hnd 0 h;unfold rnI;rw [show Nat.blt i 0=false from rfl,this,gN]
 have shown0:∀ p i,ids[p]? = some i→∃ o o0,M[i]? = some (some o)∧o.live=true∧M0[p]? = some (some o0)∧o0.live=true∧(C.rn 0 ids).ι p=C.ι i∧(C.rn 0 ids).κ p=C.κ i:=fun p i hp=>by
  obtain ⟨o,h1,h2⟩:=dQ (hlv i (kQ5 hp));obtain ⟨o0,h3,h4⟩:=hmp.fw _ _ _ (rnp p i hp) h1;exact ⟨o,o0,h1,h2,h3,by rw [bO h4];exact h2,hmp.at_ _ _ (rnp p i hp)⟩
 have sh_of:∀ (p:Nat) (o0:AO),M0[p]? = some (some o0)→∃ i o,ids[p]? = some i∧M[i]? = some (some o)∧o.live=true∧o0.live=true∧(C.rn 0 ids).ι p=C.ι i:=fun p o0 hp=>by
  obtain ⟨hl,_⟩:=kQ3.1 hp;have hp':ids[p]? = some ids[p]:=kQ0 (by omega)
  obtain ⟨o,o1,h1,h2,h3,h4,h5,_⟩:=shown0 p _ hp';rw [hp] at h3;cases h3
  exact ⟨_,o,hp',h1,h2,h4,h5⟩
 have apart:∀ (j:Nat) (o:AO) (b:Nat),j∉ids→M[j]? = some (some o)→o.live=true→C.ι j=some b→w'.heap[b]? = w.heap[b]? ∧ ¬ C1.F b∧∀ (p:Nat) (o1:AO),M1[p]? = some (some o1)→o1.live=true→C1.ι p≠some b:=fun j o b hj h1 h2 h3=>by
  have hb1:=hM.lt j o b h1 h2 h3;have no0:∀ (p:Nat) (o0:AO),M0[p]? = some (some o0)→o0.live=true→(C.rn 0 ids).ι p≠some b:=fun p o0 hp _ he=>by
   obtain ⟨i,o2,q1,q2,q3,_,q4⟩:=sh_of p o0 hp;rw [q4] at he
   have:=hM.inj j i o o2 b h1 h2 q2 q3 h3 he;subst this;exact hj (kQ5 q1)
  refine ⟨hF.keep b hb1 no0,fun hf => ?_,fun p o1 hp hl he => ?_⟩
  ·rcases hF.F2 b hf with q | q | ⟨p,o0,q1,q2,q3⟩
   ·exact hM.nF j o b h1 h2 h3 q
   ·omega
   ·exact no0 p o0 q1 q2 q3
  ·rcases hF.new p o1 b hp hl he with q | ⟨p0,o0,q1,q2,q3⟩
   ·omega
   ·exact no0 p0 o0 q1 q2 q3
 have ix:∀ j,(j∈ids→∃ p,idx ids j 0=some p∧ids[p]? = some j)∧(j∉ids→idx ids j 0=none):=fun j=>by
  refine ⟨fun hj => ?_,fun hj => ?_⟩
  ·obtain ⟨p,hp,he⟩:=List.mem_iff_getElem.1 hj
   have:ids[p]? = some j:=by rw [kQ0 hp,he]
   exact ⟨p,by simpa using qA hnd 0 this,this⟩
  ·cases h1:idx ids j 0 with
   | none=>rfl
   | some p =>
    obtain ⟨_,h2⟩:=vP _ _ _ _ h1;exact absurd (kQ5 h2) hj
 have cls:∀ (j:Nat) (o':AO),(upds M L)[j]? = some (some o')→(∃ p o1,ids[p]? = some j∧M1[p]? = some (some o1)∧mpO (bkI ids base) o1=some o'∧(C.back C1 ids base).ι j=C1.ι p∧(C.back C1 ids base).κ j=C1.κ p) ∨
   (∃ o1,j=base∧j∉ids∧M1[ids.length]? = some (some o1)∧mpO (bkI ids base) o1=some o'∧(C.back C1 ids base).ι j=C1.ι ids.length∧(C.back C1 ids base).κ j=C1.κ ids.length) ∨
   (j∉ids∧j≠base∧M[j]? = some (some o')∧(C.back C1 ids base).ι j=C.ι j∧(C.back C1 ids base).κ j=C.κ j):=fun j o' hj=>by
  rw [← bE] at hj
  by_cases hm:j∈ids
  ·obtain ⟨p,hp1,hp2⟩:=(ix j).1 hm
   obtain ⟨o1,h1,h2⟩:=(u1 p j o' hp2).1 hj;exact .inl ⟨p,o1,hp2,h1,h2,by simp [Cx.back,hp1],by simp [Cx.back,hp1]⟩
  ·have hn:=(ix j).2 hm
   by_cases hjb:j=base
   ·subst hjb
    rcases hl1 with hl | hl
    ·rw [u3 hl] at hj
     have:=cP hb o';exact absurd (bE.1 hj) this
    ·obtain ⟨o1,h1,h2⟩:=(u2 hl o').1 hj
     exact .inr (.inl ⟨o1,rfl,hm,h1,h2,by simp [Cx.back,hn],by simp [Cx.back,hn]⟩)
   ·rw [u4 j hm hjb] at hj
    exact .inr (.inr ⟨hm,hjb,bE.1 hj,by simp [Cx.back,hn,hjb],by simp [Cx.back,hn,hjb]⟩)
 have hF2:Fr C M w (C.back C1 ids base) (upds M L) w':=by
  refine ⟨hF.os,hF.tape,hF.out,hF.size,fun b hb1 hn => ?_,fun i o ho => ?_,fun i o ho ty n cs hx => ?_,fun i o ho o' hx hl => ?_,fun j o b hj hl hjb => ?_,fun b hb=>hF.F1 b hb,fun b hb => ?_⟩
  ·exact hF.keep b hb1 fun p o0 hp hl he=>by
    obtain ⟨i,o2,q1,q2,q3,_,q4⟩:=sh_of p o0 hp;rw [q4] at he
    exact hn i o2 q2 q3 he
  ·by_cases hm:i∈ids
   ·obtain ⟨p,hp1,hp2⟩:=(ix i).1 hm
    obtain ⟨_,o0,_,_,h3,h4,h5,h6⟩:=shown0 p i hp2;obtain ⟨⟨o1,q1⟩,q2,q3⟩:=hF.ids p o0 h3;refine ⟨?_,by simp only [Cx.back,hp1];rw [q2,h5],by simp only [Cx.back,hp1];rw [q3,h6]⟩
    have hq:∃ o',mpO (bkI ids base) o1=some o':=by
     exact aDh hU p o1 q1
    obtain ⟨o',hq⟩:=hq;exact ⟨o',bE.1 ((u1 p i o' hp2).2 ⟨o1,q1,hq⟩)⟩
   ·have hne:i≠base:=fun e=>by subst e;exact cP hb o ho
    refine ⟨⟨o,bE.1 (by rw [u4 i hm hne];exact bE.2 ho)⟩,by simp [Cx.back,(ix i).2 hm,hne],by simp [Cx.back,(ix i).2 hm,hne]⟩
  ·rcases cls i _ hx with ⟨p,o1,q1,q2,q3,_⟩ | ⟨o1,rfl,_⟩ | ⟨_,_,q3,_⟩
   ·rw [lB q3] at q2
    obtain ⟨o2,o0,h1,_,h3,_⟩:=shown0 p i q1;obtain ⟨cs',h5⟩:=hF.row p o0 h3 _ _ _ q2;obtain ⟨o4,h6,h7⟩:=hmp.bk _ _ _ (rnp p i q1) h5;rw [lB h7] at h6
    exact ⟨cs',h6⟩
   ·exact absurd ho (cP hb o)
   ·exact ⟨cs,q3⟩
  ·rcases cls i _ hx with ⟨p,o1,q1,q2,q3,_⟩ | ⟨o1,rfl,_⟩ | ⟨_,_,q3,_⟩
   ·obtain ⟨o2,o0,h1,h2,h3,_⟩:=shown0 p i q1
    rw [ho] at h1;cases h1
    exact h2
   ·exact absurd ho (cP hb o)
   ·rw [ho] at q3;cases q3;exact hl
  ·have fin:∀ (p:Nat) (o1:AO),M1[p]? = some (some o1)→o1.live=true→C1.ι p=some b→w.heap.size≤b∨∃ (id0:Nat) (o0:AO),M[id0]? = some (some o0)∧o0.live=true∧C.ι id0=some b:=fun p o1 h1 h2 h3=>by
    rcases hF.new p o1 b h1 h2 h3 with q | ⟨p0,o0,q1,q2,q3⟩
    ·exact .inl q
    ·obtain ⟨i,o2,r1,r2,r3,_,r4⟩:=sh_of p0 o0 q1
     rw [r4] at q3
     exact .inr ⟨i,o2,r2,r3,q3⟩
   rcases cls j _ hj with ⟨p,o1,q1,q2,q3,q4,_⟩ | ⟨o1,rfl,_,q2,q3,q4,_⟩ | ⟨_,_,q3,q4,_⟩
   ·rw [q4] at hjb
    exact fin p o1 q2 (by rw [← bO q3];exact hl) hjb
   ·rw [q4] at hjb
    exact fin _ o1 q2 (by rw [← bO q3];exact hl) hjb
   ·rw [q4] at hjb
    exact .inr ⟨j,o,q3,hl,hjb⟩
  ·rcases hF.F2 b hb with q | q | ⟨p,o0,q1,q2,q3⟩
   ·exact .inl q
   ·exact .inr (.inl q)
   ·obtain ⟨i,o2,r1,r2,r3,_,r4⟩:=sh_of p o0 q1
    rw [r4] at q3
    exact .inr (.inr ⟨i,o2,r2,r3,q3⟩)
 have hL2:=hM.le hF2;have hbk:aXt (bkI ids base) C1 (C.back C1 ids base) M1 (upds M L):=by
  have two:∀ i j,bkI ids base i=some j→(ids[i]? = some j)∨(i=ids.length∧j=base):=fun i j h=>by
   unfold bkI at h
   split at h
   ·rename_i hi;cases h;exact .inl hi
   ·split at h
    ·rename_i hq;cases h;exact .inr ⟨Nat.eq_of_beq_eq_true hq,rfl⟩
    ·cases h
  have big:∀ (o:AO),M1[ids.length]? = some (some o)→M1.length=ids.length+1:=fun o h=>by
   obtain ⟨hl,_⟩:=kQ3.1 h;omega
  refine ⟨fun i j o' hij hj => ?_,fun i j o hij hi => ?_,fun i j hij => ?_,fun _ h=>h⟩
  ·rcases two i j hij with h1 | ⟨rfl,rfl⟩
   ·exact (u1 i j o' h1).1 (bE.2 hj)
   ·rcases hl1 with hl | hl
    ·have:=bE.2 hj
     rw [u3 hl] at this
     exact absurd (bE.1 this) (cP hb o')
    ·exact (u2 hl o').1 (bE.2 hj)
  ·have hq:∃ o',mpO (bkI ids base) o=some o':=by
    exact aDh hU i o hi
   obtain ⟨o',hq⟩:=hq
   rcases two i j hij with h1 | ⟨rfl,rfl⟩
   ·exact ⟨o',bE.1 ((u1 i j o' h1).2 ⟨o,hi,hq⟩),hq⟩
   ·exact ⟨o',bE.1 ((u2 (big o hi) o').2 ⟨o,hi,hq⟩),hq⟩
  ·rcases two i j hij with h1 | ⟨rfl,rfl⟩
   ·have:=qA hnd 0 h1
    rw [gN] at this
    simp [Cx.back,this]
   ·simp [Cx.back,(ix _).2 hbn]
 refine ⟨hF2,⟨fun j ty n cs h => ?_,fun j ty cs h => ?_,fun j es cl h => ?_,fun j j' o1 o2 b q1 l1 q2 l2 e1 e2 => ?_,fun j o b h hl hb => ?_,hM1.Fs,fun j o b h hl hb => ?_⟩,sR hbk hr hy⟩
 ·rcases cls j _ h with ⟨p,o1,q1,q2,q3,q4,q5⟩ | ⟨o1,rfl,_,q2,q3,q4,q5⟩ | ⟨q1,_,q3,q4,q5⟩
  ·rw [lB q3] at q2
   rw [q4,q5];exact hM1.row _ _ _ _ q2
  ·rw [lB q3] at q2
   rw [q4,q5];exact hM1.row _ _ _ _ q2
  ·rw [q4,q5]
   rcases hM.row _ _ _ _ q3 with q | ⟨b,arr,inf,p0,p1,p2,p3,p4,p5,p6,p7,p8⟩
   ·exact .inl q
   ·exact .inr ⟨b,arr,inf,p0,by rw [(apart j _ b q1 q3 rfl p0).1];exact p1,p2,p3,p4,p5,p6,fun i hi=>(p7 i hi).mono hL2.F hL2.fz,p8⟩
 ·rcases cls j _ h with ⟨p,o1,q1,q2,q3,q4,q5⟩ | ⟨o1,rfl,_,q2,q3,q4,q5⟩ | ⟨q1,_,q3,q4,q5⟩
  ·cases o1 with
   | box ty' l =>
    simp only [mpO,kL] at q3
    obtain ⟨l',hl',e⟩:=q3;cases e;obtain ⟨b,arr,p0,p1,p2,p3,p4⟩:=hM1.box _ _ _ q2;obtain ⟨n1,n2⟩:=gE hbk (w:=w') (us:=fun j=>arr.getD j undef) p3 hl'
    exact ⟨b,arr,by rw [q4];exact p0,p1,by omega,n2,fun j hj=>p4 j (by omega)⟩
   | row=>simp [mpO] at q3
   | mp=>simp [mpO] at q3
   | pk=>simp [mpO] at q3
   | dead=>simp [mpO] at q3
  ·cases o1 with
   | box ty' l =>
    simp only [mpO,kL] at q3
    obtain ⟨l',hl',e⟩:=q3;cases e;obtain ⟨b,arr,p0,p1,p2,p3,p4⟩:=hM1.box _ _ _ q2;obtain ⟨n1,n2⟩:=gE hbk (w:=w') (us:=fun j=>arr.getD j undef) p3 hl'
    exact ⟨b,arr,by rw [q4];exact p0,p1,by omega,n2,fun j hj=>p4 j (by omega)⟩
   | row=>simp [mpO] at q3
   | mp=>simp [mpO] at q3
   | pk=>simp [mpO] at q3
   | dead=>simp [mpO] at q3
  ·obtain ⟨b,arr,p0,p1,p2,p3,p4⟩:=hM.box _ _ _ q3
   exact ⟨b,arr,by rw [q4];exact p0,by rw [(apart j _ b q1 q3 rfl p0).1];exact p1,p2,fun i hi=>(p3 i hi).mono hL2,p4⟩
 ·rcases cls j _ h with ⟨p,o1,q1,q2,q3,q4,q5⟩ | ⟨o1,rfl,_,q2,q3,q4,q5⟩ | ⟨q1,_,q3,q4,q5⟩
  ·cases o1 with
   | mp es' cl' =>
    simp only [mpO,Option.some.injEq] at q3
    cases q3;obtain ⟨b,arr,p0,p1,p2,p3⟩:=hM1.mp _ _ _ q2;refine ⟨b,arr,by rw [q4];exact p0,p1,p2,fun j hj => ?_⟩
    obtain ⟨en,s1,s2,s3,s4⟩:=p3 j hj;exact ⟨en,s1,s2,s3,s4.mono hbk.F (fun _ _=>rfl)⟩
   | row=>simp [mpO] at q3
   | box=>simp [mpO] at q3
   | pk=>simp [mpO] at q3
   | dead=>simp [mpO] at q3
  ·cases o1 with
   | mp es' cl' =>
    simp only [mpO,Option.some.injEq] at q3
    cases q3;obtain ⟨b,arr,p0,p1,p2,p3⟩:=hM1.mp _ _ _ q2;refine ⟨b,arr,by rw [q4];exact p0,p1,p2,fun j hj => ?_⟩
    obtain ⟨en,s1,s2,s3,s4⟩:=p3 j hj;exact ⟨en,s1,s2,s3,s4.mono hbk.F (fun _ _=>rfl)⟩
   | row=>simp [mpO] at q3
   | box=>simp [mpO] at q3
   | pk=>simp [mpO] at q3
   | dead=>simp [mpO] at q3
  ·obtain ⟨b,arr,p0,p1,p2,p3⟩:=hM.mp _ _ _ q3
   refine ⟨b,arr,by rw [q4];exact p0,by rw [(apart j _ b q1 q3 rfl p0).1];exact p1,p2,fun i hi => ?_⟩
   obtain ⟨en,s1,s2,s3,s4⟩:=p3 i hi;exact ⟨en,s1,s2,s3,s4.mono hL2.F hL2.fz⟩
 ·rcases cls j _ q1 with ⟨p,a1,r1,r2,r3,r4,_⟩ | ⟨a1,rfl,r1,r2,r3,r4,_⟩ | ⟨r1,rb,r3,r4,_⟩ <;> rcases cls j' _ q2 with ⟨p',a2,t1,t2,t3,t4,_⟩ | ⟨a2,rfl,t1,t2,t3,t4,_⟩ | ⟨t1,tb,t3,t4,_⟩
  all_goals try rfl
  all_goals (rw [r4] at e1;rw [t4] at e2)
  ·have:=hM1.inj p p' a1 a2 b r2 (by rw [← bO r3];exact l1) t2 (by rw [← bO t3];exact l2) e1 e2
   subst this;rw [r1] at t1;cases t1;rfl
  ·have:=hM1.inj p _ a1 a2 b r2 (by rw [← bO r3];exact l1) t2 (by rw [← bO t3];exact l2) e1 e2
   obtain ⟨hl,_⟩:=kQ3.1 r1;omega
  ·exact absurd e1 ((apart j' o2 b t1 t3 l2 e2).2.2 p a1 r2 (by rw [← bO r3];exact l1))
  ·have:=hM1.inj _ p' a1 a2 b r2 (by rw [← bO r3];exact l1) t2 (by rw [← bO t3];exact l2) e1 e2
   obtain ⟨hl,_⟩:=kQ3.1 t1;omega
  ·exact absurd e1 ((apart j' o2 b t1 t3 l2 e2).2.2 _ a1 r2 (by rw [← bO r3];exact l1))
  ·exact absurd e2 ((apart j o1 b r1 r3 l1 e1).2.2 p' a2 t2 (by rw [← bO t3];exact l2))
  ·exact absurd e2 ((apart j o1 b r1 r3 l1 e1).2.2 _ a2 t2 (by rw [← bO t3];exact l2))
  ·exact hM.inj j j' o1 o2 b r3 l1 t3 l2 e1 e2
 ·rcases cls j _ h with ⟨p,o1,q1,q2,q3,q4,q5⟩ | ⟨o1,rfl,_,q2,q3,q4,q5⟩ | ⟨q1,_,q3,q4,q5⟩
  ·rw [q4] at hb
   exact hM1.nF _ _ b q2 (by rw [← bO q3];exact hl) hb
  ·rw [q4] at hb
   exact hM1.nF _ _ b q2 (by rw [← bO q3];exact hl) hb
  ·rw [q4] at hb
   exact (apart j o b q1 q3 hl hb).2.1
 ·rcases cls j _ h with ⟨p,o1,q1,q2,q3,q4,q5⟩ | ⟨o1,rfl,_,q2,q3,q4,q5⟩ | ⟨q1,_,q3,q4,q5⟩
  ·rw [q4] at hb
   exact hM1.lt _ _ b q2 (by rw [← bO q3];exact hl) hb
  ·rw [q4] at hb
   exact hM1.lt _ _ b q2 (by rw [← bO q3];exact hl) hb
  ·rw [q4] at hb
   exact kQ8 (hM.lt j o b q3 hl hb) hF.size

theorem aRh{f base:Nat}{ids:List Nat}{args args0:List AV}{r y:AV}{L:Upd}(hd:distinct 0 ids=true)(hb:fK M base=true)
  (hs:rnM 0 ids (ids.map (at? M))=some M0) (hlv:∀ i∈ids,eJ M i=true) (ha:rnL 0 ids args=some args0) (hU:oA ids base ids M1=some L) (hy:mpA (bkI ids base) r=some y)
  (h:FMM P f args0 M0 r M1):FM P f args M y L:=by
 intro C w us hus hM n;obtain ⟨hM0,hmp,_⟩:=rC (k:=0) hM hd hs;refine (h (C.rn 0 ids) w us (aJk hmp hus ha) hM0 n).mono ?_;rintro e w' ⟨u,rfl,C1,hF,hM1,hr⟩;exact ⟨u,rfl,C.back C1 ids base,bNa hd hb hs hlv hU hy hM hF hM1 hr⟩
def shown(ids:List Nat)(base:Nat)(args:List AV)(bs:Upd)(M1:Mem)(r:AV):Option (List AV × Mem × AV × Upd):=match distinct 0 ids && ids.all (eJ (upds [] bs)) with
 | true=>match rnM 0 ids (ids.map (at? (upds [] bs))) with
  | some M0=>match rnL 0 ids args with
   | some args0=>match oA ids base ids M1 with
    | some L=>match mpA (bkI ids base) r with
     | some y=>some (args0,M0,y,L)
     | none=>none
    | none=>none
   | none=>none
  | none=>none
 | false=>none
theorem FMM.fc{f base:Nat}{ids:List Nat}{args args0:List AV}{bs:Upd}{r y:AV}{L:Upd}(h:FMM P f args0 M0 r M1)(hs:shown ids base args bs M1 r=some (args0,M0,y,L)):FC P f args bs base y L:=fun M hb hf _=>by
 unfold shown at hs
 have hsub:aPl (upds [] bs) M:=fun id o ho=>by
  rcases rA bs [] id o ho with h5 | h5
  ·exact hb _ h5
  ·simp [bV] at h5
 split at hs
 ·rename_i hd
  rw [kQ7,gA] at hd
  have hlv:∀ i∈ids,∃ o,bV (upds [] bs) i=some o∧bV M i=some o∧o.live=true:=fun i hi=>by
   obtain ⟨o,h1,h2⟩:=dQ (hd.2 i hi);exact ⟨o,bE.2 h1,hsub _ _ (bE.2 h1),h2⟩
  split at hs
  ·rename_i h1
   split at hs
   ·rename_i h2
    split at hs
    ·rename_i h3
     split at hs
     ·rename_i h4
      cases hs;have he:ids.map (at? M)=ids.map (at? (upds [] bs)):=aAj fun i hi=>by
       obtain ⟨o,q1,q2,_⟩:=hlv i hi;unfold at?
       rw [q1,q2]
      refine aRh hd.1 hf (by rw [he];exact h1) (fun i hi => ?_) h2 h3 h4 h
      obtain ⟨o,_,q2,q3⟩:=hlv i hi;exact jE (bE.1 q2) q3
     ·cases hs
    ·cases hs
   ·cases hs
  ·cases hs
 ·cases hs

theorem aNl{id ty n:Nat}{cs:List PV}(hM:aR P C M w)(ho:M[id]? = some (some (.row ty n cs))):∀ {l:List AV} {us:List Value},dD C M w l us→dD (C.close id true) (aZ M id (some .dead)) w (fzL id n cs l) us
 | [],us,h=>by cases h;simp only [fzL];exact .nil
 | x::r,us,h=>by
  cases h with
  | cons _ u _ k hx hr =>
   simp only [fzL];exact .cons _ _ _ _ (aGj hM ho hx) (aNl hM ho hr)
theorem FM.close1{f id ty n:Nat}{cs:List PV}{args:List AV}{y:AV}{L:Upd}(ho:bV M id=some (.row ty n cs))(h:FM P f (fzL id n cs args) (aZ M id (some .dead)) y L):FM P f args M y ((id,.dead)::L):=fun C w us hus hM k=>by
 have ho:=bE.1 ho;have fk:=dE (C:=C) (w:=w) true ho rfl;refine (h _ w us (aNl hM ho hus) (pA hM true ho rfl) k).mono ?_;rintro e w' ⟨u,rfl,C',hF,hM',hr⟩;exact ⟨u,rfl,C',fk.trans hF,hM',hr⟩
def aDi(bs:Upd):List Nat→List AV→Option (List AV)
 | [],args=>match jS args with
  | true=>some args
  | false=>none
 | id::r,args=>match bV (upds [] bs) id with
  | some (.row _ n cs)=>match r.all (fun j => !Nat.beq j id) with
   | true=>aDi bs r (fzL id n cs args)
   | false=>none
  | _=>none
def kills:List Nat→Upd→Upd
 | [],L=>L
 | id::r,L=>(id,.dead)::kills r L
theorem aHh{f base:Nat}{bs:Upd}{y:AV}{L:Upd}:∀ {ids:List Nat} {M:Mem} {args args':List AV},aDi bs ids args=some args'→(∀ id∈ids,∀ o,bV (upds [] bs) id=some o→bV M id=some o)→fK M base=true→FV P f args' base y L→FM P f args M y (kills ids L)
 | [],M,args,args',hc,_,hf,h=>by
  unfold aDi at hc
  split at hc
  ·rename_i hn
   cases hc;obtain ⟨r,M1,h1,h2⟩:=h;exact xI (.inl ⟨hn,rfl⟩) hf h2 h1
  ·cases hc
 | id::r,M,args,args',hc,hb,hf,h=>by
  unfold aDi at hc
  split at hc
  ·rename_i ty n cs ho
   split at hc
   ·rename_i hd
    have hoM:=hb id (gY ..) _ ho;refine FM.close1 hoM (aHh hc (fun j hj o hjo => ?_) ?_ h)
    ·have hne:j≠id:=fun e=>by
      have:=gA.1 hd j hj;subst e;simp at this
     rw [cX,if_neg (Ne.symm hne)];exact hb j (kQ6 _ hj) o hjo
    ·have hne:id≠base:=fun e=>by
      subst e;exact cP hf _ (bE.1 hoM)
     unfold fK at hf ⊢
     rw [cX,if_neg hne];exact hf
   ·cases hc
  ·cases hc
theorem FV.close{f base:Nat}{ids:List Nat}{args args':List AV}{y:AV}{L:Upd}{bs:Upd}(h:FV P f args' base y L)(hc:aDi bs ids args=some args'):FC P f args bs base y (kills ids L):=fun M hb hf _=>by
 refine aHh hc (fun id _ o ho => ?_) hf h
 rcases rA bs [] id o ho with h5 | h5
 ·exact hb _ h5
 ·simp [bV] at h5

def unA:AV→AV
 | .tup l => .tup (l.map un)
 | x=>un x
theorem bNb{x:AV}{u:Value}(h:Rep C M w x u):Rep C M w (unA x) u:=by
 cases h with
 | tup cs vs h1 h2 =>
  refine .tup _ _ (by simpa using h1) (fun i hi => ?_)
  simp only [mZ];exact bHh (h2 i (by simpa using hi))
 | p x u h=>exact .p _ _ h
 | any u=>exact .any u
 | kb b=>exact bHh (.kb b)
 | yld l=>exact .yld l
 | own id u h0 ha h=>exact .own id u h0 ha h
 | arr id off n u h0 ha h=>exact .arr id off n u h0 ha h
 | ptr id off u h0 ha h hp=>exact .ptr id off u h0 ha h hp
 | mp id u h0 ha h=>exact .mp id u h0 ha h
 | pa id q u h0 ha h=>exact .pa id q u h0 ha h
 | rp cs off b o us h1 h2 h3=>exact .rp cs off b o us h1 h2 h3
 | agg cs vs h0 h1 h2=>exact .agg cs vs h0 h1 h2
 | fn f cs ds us vs h1 h2 h3 h4=>exact .fn f cs ds us vs h1 h2 h3 h4
theorem uM.un{f:Nat}{args:List AV}{M M1:Mem}{r:AV}(h:uM P f args M r M1):uM P f args M (unA r) M1:=fun C w us hus hM n=>by
 refine (h C w us hus hM n).mono ?_;rintro e w' ⟨u,rfl,C1,hF,hM1,hr,hP⟩;exact ⟨u,rfl,C1,hF,hM1,bNb hr,hP⟩

def bNc(k:Nat)(g:Gh)(x:Option ((AV × Mem) × AS)):Option (AV × Mem × List Prop × List OI):=match x with
 | some ((r,M1),s)=>match gh k g ⟨[unA r],M1⟩ with
  | some ⟨[r'],M'⟩=>some (r',M',s.obs,s.o)
  | _=>none
 | none=>none
theorem uM.gh{f k:Nat}{args:List AV}{M M1 M':Mem}{r r':AV}{g:Gh}(hk:M.length≤k)(h:uM P f args M r M1)(hg:KV.gh k g ⟨[r],M1⟩=some ⟨[r'],M'⟩):uM P f args M r' M':=fun C w us hus hM n=>by
 refine (h C w us hus hM n).mono ?_;rintro e w' ⟨u,rfl,C1,hF,hM1,hr,hP⟩;have hs:Sim P (C.with []) M w ⟨[r],M1⟩ { tmps := #[u],defers:=[] } w':=⟨C1,⟨rfl,fun i hi=>by
  obtain rfl:i=0:=by simpa using hi
  exact hr⟩,hM1,hF.based [],⟨[],rfl,.nil,fun D h=>by simp at h⟩,fun p hp=>(by cases hp),hP⟩
 obtain ⟨C2,hS,hM2,hF2,_,_,hP2⟩:=eQ hk hg hs;exact ⟨u,rfl,C2,hF2.unbased,hM2,hS.rep 0 (by simp),hP2⟩
end
section
/-- numbers, by runs -/
def rng:List (Nat × Nat)→List Nat
 | []=>[]
 | (a,n)::r=>List.range' a n++rng r

abbrev aB(n:Int):PV := .v (.int .i64 n)
abbrev blP(b:Bool):PV := .v (.bool b)
abbrev aF(l:List Int):PV := .sl l.length (l.map aB)
abbrev dR:PV := .v (.slice none 0 0)

def EO:Env:=⟨fun _ _ _ _=>none,ok⟩
theorem aHe:mE Tp EO:=⟨fun _ _ _ _ _ _ h=>(by cases h),bTe⟩

def cd(f:Func):Code:=f.body.getD .skip
def sub:Code→List Nat→Code
 | c,[]=>c
 | .seq a b,i::r=>match i with | 0=>sub a r | _=>sub b r
 | .cond _ a b,i::r=>match i with | 0=>sub a r | _=>sub b r
 | .block _ b,_::r=>sub b r
 | .loop b,_::r=>sub b r
 | .scope b,_::r=>sub b r
 | .rangeFunc _ _ a b,i::r=>match i with | 0=>sub a r | _=>sub b r
 | _,_::_ => .skip
def look:List (Nat × AV)→Nat→AV
 | [],_ => .any
 | (i,x)::r,k=>match Nat.beq i k with
  | true=>x
  | false=>look r k
def frm(l:List (Nat × AV)):Nat→Nat→List AV
 | 0,_=>[]
 | n+1,k=>look l k::frm l n (k+1)
abbrev fr(n:Nat)(l:List (Nat × AV)):List AV:=frm l n 0

abbrev asg(o:List OI):AS:=⟨false,o,[]⟩
abbrev out(l:List Prop):AS:=⟨false,[],l⟩
theorem gn:bB (out []):=fun _ h=>by simp at h
theorem gc{p:Prop}{l:List Prop}(hp:p)(h:bB (out l)):bB (out (p::l)):=fun q hq=>by
 rcases jH.1 hq with rfl | hq
 ·exact hp
 ·exact h q hq

def bTb(base:Nat)(x:Option ((AV × Mem) × AS)):Option (AV × Upd × List Prop × List OI):=match x with
 | some ((r,M1),s)=>match aXn M1 base (unA r) with
  | some (y,L)=>some (y,L,s.obs,s.o)
  | none=>none
 | none=>none
theorem FV.fin{f base:Nat}{fn:Func}{args:List AV}{y:AV}{L:Upd}{o:List OI}{l:List Prop}(hf:Tryz.prog.funcs[f]? = some fn)(hb:fn.body.isSome=true)
  (h:bTb base (aPo Tp tT EO 0 fn (cd fn) args [] (asg o))=some (y,L,l,[])) (g:bB (out l)):FV Tp f args base y L:=by
 unfold bTb at h
 split at h
 ·rename_i r M1 s hr
  split at h
  ·rename_i y' L' ho
   simp only [Option.some.injEq,Prod.mk.injEq] at h
   obtain ⟨rfl,rfl,rfl,hs⟩:=h;refine ⟨unA r,M1,(uM.un (zC aHf aHe mixed hf ?_ hr (fun p hp=>g p hp))).fmm,ho⟩
   unfold cd;cases h1:fn.body with
   | none=>rw [h1] at hb;cases hb
   | some c=>rfl
  ·cases h
 ·cases h
def aAl(k:Nat)(g:Gh)(x:Option ((Ex × St) × AS)):Option (Ex × St × List Prop × List OI):=match x with
 | some ((e,st1),s)=>match gh k g st1 with
  | some st'=>some (e,st',s.obs,s.o)
  | none=>none
 | none=>none
theorem aC.fin{k:Nat}{c:Code}{st st':St}{e:Ex}{g:Gh}{o:List OI}{l:List Prop}(h:aAl k g (aAc Tp tT EO k 0 c st (asg o))=some (e,st',l,[]))(gd:bB (out l)):aC Tp k c st e st':=by
 unfold aAl at h
 split at h
 ·rename_i e1 st1 s hr
  split at h
  ·rename_i st2 hg
   simp only [Option.some.injEq,Prod.mk.injEq] at h
   obtain ⟨rfl,rfl,rfl,hs⟩:=h;exact (aBs aHf aHe mixed c hr (fun p hp=>gd p hp)).post hg
  ·cases h
 ·cases h
theorem uM.fin{f k:Nat}{fn:Func}{args:List AV}{M M':Mem}{r:AV}{g:Gh}{o:List OI}{l:List Prop}(hk:M.length=k)(hf:Tryz.prog.funcs[f]? = some fn)(hb:fn.body.isSome=true)
  (h:bNc k g (aPo Tp tT EO 0 fn (cd fn) args M (asg o))=some (r,M',l,[])) (gd:bB (out l)):uM Tp f args M r M':=by
 unfold bNc at h
 split at h
 ·rename_i r1 M1 s hr
  split at h
  ·rename_i r2 M2 hg
   simp only [Option.some.injEq,Prod.mk.injEq] at h
   obtain ⟨rfl,rfl,rfl,hs⟩:=h;refine uM.gh (Nat.le_of_eq hk) (uM.un (zC aHf aHe mixed hf ?_ hr (fun p hp=>gd p hp))) hg
   unfold cd;cases h1:fn.body with
   | none=>rw [h1] at hb;cases hb
   | some c=>rfl
  ·cases h
 ·cases h
theorem FMM.fin{f k:Nat}{fn:Func}{args:List AV}{M M':Mem}{r:AV}{g:Gh}{o:List OI}{l:List Prop}(hk:M.length=k)(hf:Tryz.prog.funcs[f]? = some fn)(hb:fn.body.isSome=true)
  (h:bNc k g (aPo Tp tT EO 0 fn (cd fn) args M (asg o))=some (r,M',l,[])) (gd:bB (out l)):FMM Tp f args M r M':=(uM.fin hk hf hb h gd).fmm
theorem FV.frz{P:Program}{f base:Nat}{args:List AV}{y:AV}(h:FMM P f args [] y [])(ho:aXn [] base y=some (y,[])):FV P f args base y []:=⟨y,[],h,ho⟩
theorem aC.cast{P:Program}{k:Nat}{c:Code}{st st1 st':St}{e:Ex}(h:aC P k c st e st1)(he:st1=st'):aC P k c st e st':=he ▸ h
def dI(st:St)(l:List (Nat × AV)):St:=⟨l.foldl (fun t p=>t.set p.1 p.2) st.t,st.m⟩

theorem dX{x y:Int}(h:x=y):(x == y)=true:=by simpa using h
theorem bJ{x y:Int}(h:x≠y):(x == y)=false:=by simpa using h
theorem nB{x y:Int}(h:x≠y):(x != y)=true:=by simpa using h
theorem gB{x y:Int}(h:x=y):(x != y)=false:=by simpa using h
theorem aV{x y:Int}(h:x<y):decide (x<y)=true:=by simpa using h
theorem bA{x y:Int}(h:y≤x):decide (x<y)=false:=by simpa using h
theorem aAm{x y:Int}(h:x≤y):decide (x≤y)=true:=by simpa using h
theorem qU{x y:Int}(h:y<x):decide (x≤y)=false:=by simpa using h
theorem bI{b:Bool}(h:b=false):(!b)=true:=by simpa using h
theorem aI{b:Bool}(h:b=true):(!b)=false:=by simpa using h

theorem iO{α:Type}{g:α→PV}{l:List α}{i:Nat}{x:α}(h:l[i]? = some x):(l.map g)[i*1]? = some (g x):=by rw [Nat.mul_one,jA,h];rfl
theorem iP{α:Type}{g:α→PV}{l:List α}{i:Int}{x:α}(h0:0≤i)(h:l[i.toNat]? = some x):0≤i∧i<(l.length:Int)∧i.toNat*1<(l.map g).length:=by
 obtain ⟨h1,_⟩:=kQ3.1 h;refine ⟨h0,by omega,by simpa using h1⟩
theorem cT{α:Type}{l:List α}{i:Int}{x:α}(h0:0≤i)(h:l[i.toNat]? = some x):0≤i∧i<(l.length:Int):=by
 obtain ⟨h1,_⟩:=kQ3.1 h;exact ⟨h0,by omega⟩
theorem fk{P:Program}{f:Nat}{args:List AV}{y:AV}{L:Upd}(base:Nat)(h:FV P f args base y L)(hn:jS args=true):FC P f args [] base y L:=h.fc hn
theorem fv{P:Program}{f base:Nat}{args args':List AV}{y:AV}{L:Upd}{bs:List (Nat × AO)}(h:FV P f args' base y L)(hv:nQ (upds [] bs) args=some args':=by kernel_rfl)(h1:aXp y=true:=by kernel_rfl)(h2:aLm L=true:=by kernel_rfl):FC P f args bs base y L:=h.view hv h1 h2
theorem ixn{α:Type}{l:List α}{i:Nat}{x:α}(g:α→PV)(h:l[i]? = some x):0≤(i:Int)∧(i:Int)<(l.length:Int)∧(i:Int).toNat*1<(l.map g).length:=iP (kQ1 _) (by rwa [bHq])
theorem atm{α:Type}{l:List α}{i:Nat}{x:α}(g:α→PV)(h:l[i]? = some x):(l.map g)[i*1]? = some (g x):=iO h
abbrev bF:OI := .b false
abbrev bT:OI := .b true
abbrev pI (n:Int):AV:=.p (aB n)
abbrev pB (b:Bool):AV:=.p (blP b)
abbrev fS (l:Lqq):PV:=.sl l.length (l.flatten.map aB)
theorem g2c {p:Prop}{l:List Prop}(hp:p)(h:bB (out l)):bB (out (p::p::l)):=gc hp (gc hp (h))
theorem g3c {p:Prop}{l:List Prop}(hp:p)(h:bB (out l)):bB (out (p::p::p::l)):=gc hp (gc hp (gc hp (h)))
theorem g4c {p:Prop}{l:List Prop}(hp:p)(h:bB (out l)):bB (out (p::p::p::p::l)):=gc hp (gc hp (gc hp (gc hp (h))))
theorem g5c {p:Prop}{l:List Prop}(hp:p)(h:bB (out l)):bB (out (p::p::p::p::p::l)):=gc hp (gc hp (gc hp (gc hp (gc hp (h)))))
theorem g6c {p:Prop}{l:List Prop}(hp:p)(h:bB (out l)):bB (out (p::p::p::p::p::p::l)):=gc hp (gc hp (gc hp (gc hp (gc hp (gc hp (h))))))
theorem g7c {p:Prop}{l:List Prop}(hp:p)(h:bB (out l)):bB (out (p::p::p::p::p::p::p::l)):=gc hp (gc hp (gc hp (gc hp (gc hp (gc hp (gc hp (h)))))))
theorem g8c {p:Prop}{l:List Prop}(hp:p)(h:bB (out l)):bB (out (p::p::p::p::p::p::p::p::l)):=gc hp (gc hp (gc hp (gc hp (gc hp (gc hp (gc hp (gc hp (h))))))))
theorem gt (p:Prop){l:List Prop}(hp:p)(h:bB (out l)):bB (out (p::l)):=gc hp h
theorem gr (v:PV){l:List Prop}(h:bB (out l)):bB (out ((some v=some v)::l)):=gc rfl h
theorem gf{l:List Prop}(h:bB (out l)):bB (out ((false=false)::l)):=gc rfl h
def FC.o{P:Program}{f:Nat}{args:List AV}{bs:List (Nat × AO)}{base:Nat}{y:AV}{L:Upd}(_:FC P f args bs base y L):OI:=.c y L
def aH.k{P:Program}{k:Nat}{c:Code}{st st':St}{e:Ex}(_:aH P k c st e st')(n:Nat)(g:Gh):OI:=.k n g e st'
def aC.k{P:Program}{k:Nat}{c:Code}{st st':St}{e:Ex}(_:aC P k c st e st')(n:Nat)(g:Gh):OI:=.k n g e st'
def qI(ids:List Nat)(base:Nat)(x:AV):AV:=(mpA (bkI ids base) x).getD .any
def qM(f:Nat→Option Nat):List Nat→Mem→Upd
 | i::r,some o::M=>match mpO f o with
  | some q=>(i,q)::qM f r M
  | none=>[]
 | i::r,none::M=>qM f r M
 | _,_=>[]
def qS(ids:List Nat)(f:Nat→Option Nat)(args:List AV)(M:Mem):Upd:=blocks (upds [] (qM f ids M)) (clos (upds [] (qM f ids M)) (uS args))
theorem mq(ids:List Nat)(base:Nat){P:Program}{f:Nat}{args0:List AV}{M0 M1:Mem}{r:AV}(h:FMM P f args0 M0 r M1)(hs:shown ids base (args0.map (qI ids base)) (qS ids (bkI ids base) (args0.map (qI ids base)) M0) M1 r=some (args0,M0,qI ids base r,(oA ids base ids M1).getD []):=by kernel_rfl):FC P f (args0.map (qI ids base)) (qS ids (bkI ids base) (args0.map (qI ids base)) M0) base (qI ids base r) ((oA ids base ids M1).getD []):=FMM.fc h hs
theorem FV.fi{f base:Nat}{fn:Func}{args:List AV}{y:AV}{L:Upd}{l:List Prop}(hf:Tryz.prog.funcs[f]? = some fn)(o:List OI)(g:bB (out l))(h:bTb base (aPo Tryz.prog tT EO 0 fn (cd fn) args [] (asg o))=some (y,L,l,[]):=by kernel_rfl)(hb:fn.body.isSome=true:=by kernel_rfl):FV Tryz.prog f args base y L:=FV.fin hf hb h g
theorem aC.fi{k:Nat}{c:Code}{st st':St}{e:Ex}(g:Gh)(o:List OI){l:List Prop}(gd:bB (out l))(h:aAl k g (aAc Tryz.prog tT EO k 0 c st (asg o))=some (e,st',l,[]):=by kernel_rfl):aC Tryz.prog k c st e st':=aC.fin h gd
theorem FMM.fi(k:Nat)(g:Gh){f:Nat}{fn:Func}{args:List AV}{M M':Mem}{r:AV}{l:List Prop}(hf:Tryz.prog.funcs[f]? = some fn)(o:List OI)(gd:bB (out l))(h:bNc k g (aPo Tryz.prog tT EO 0 fn (cd fn) args M (asg o))=some (r,M',l,[]):=by kernel_rfl)(hb:fn.body.isSome=true:=by kernel_rfl)(hk:M.length=k:=by kernel_rfl):FMM Tryz.prog f args M r M':=FMM.fin hk hf hb h gd
end
section
section
variable {P:Program} {k:Nat} {b:Code} {α:Type}
theorem aH.find(S:Nat→St)(R1:Nat→α→St)(R2:St)(e1 e2:Ex)(h1:e1 ≠ .normal)(h2:e2 ≠ .normal)(p:α→Bool)(l:List α)
  (hs:∀ (i:Nat) (x:α),l[i]? = some x→p x=false→aC P k b (S i) .normal (S (i+1)))
  (hq:∀ (i:Nat) (x:α),l[i]? = some x→p x=true→aC P k b (S i) e1 (R1 i x))
  (hx:aC P k b (S l.length) e2 R2) :
  (∃ i x,l[i]? = some x∧l.findIdx? p=some i∧p x=true∧aH P k b (S 0) e1 (R1 i x))∨(l.findIdx? p=none∧l.any p=false∧aH P k b (S 0) e2 R2):=by
 have key:∀ (r:List α) (i:Nat),l.drop i=r→i≤l.length→(∃ j x,l[i+j]? = some x∧r.findIdx? p=some j∧p x=true∧aH P k b (S i) e1 (R1 (i+j) x))∨(r.findIdx? p=none∧r.any p=false∧aH P k b (S i) e2 R2):=by
  intro r
  induction r with
  | nil =>
   intro i hd hi;have:i=l.length:=by have:=congrArg List.length hd;simp at this;omega
   subst this;exact .inr ⟨rfl,rfl,.exit hx h2⟩
  | cons x r ih =>
   intro i hd hi;have hl:l[i]? = some x:=by
    have:=congrArg (·[0]?) hd
    simpa using this
   have hlt:i<l.length:=(kQ3.1 hl).1;cases hp:p x with
   | true=>exact .inl ⟨0,x,by simpa using hl,by simp [List.findIdx?_cons,hp],hp,.exit (hq i x hl hp) h1⟩
   | false =>
    have hd':l.drop (i+1)=r:=by
     have:=congrArg List.tail hd;simpa [List.tail_drop] using this
    rcases ih (i+1) hd' (by omega) with ⟨j,y,q1,q2,q3,q4⟩ | ⟨q1,q2,q3⟩
    ·refine .inl ⟨j+1,y,by rw [← q1];congr 1;omega,by simp [List.findIdx?_cons,hp,q2],q3,?_⟩
     rw [show i+(j+1)=i+1+j by omega]
     exact .step (hs i x hl hp) q4
    ·exact .inr ⟨by simp [List.findIdx?_cons,hp,q1],by simp [hp,q2],.step (hs i x hl hp) q3⟩
 rcases key l 0 (by simp) (Nat.zero_le _) with ⟨j,x,q1,q2,q3,q4⟩ | q
 ·exact .inl ⟨j,x,by simpa using q1,q2,q3,by simpa using q4⟩
 ·exact .inr q
end
def bK{α:Type}(p:α→Bool)(l:List α):Int:=match l.findIdx? p with
 | some i=>(i:Int)
 | none => -1
theorem iA{α:Type}{p:α→Bool}{l:List α}{i:Nat}(h:l.findIdx? p=some i):bK p l=(i:Int):=by unfold bK;rw [h]
theorem iB{α:Type}{p:α→Bool}{l:List α}(h:l.findIdx? p=none):bK p l = -1:=by unfold bK;rw [h]
theorem pD{α:Type}(p:α→Bool)(l:List α):decide (bK p l ≥ 0)=l.any p:=by
 unfold bK;cases h:l.findIdx? p with
 | none =>
  have:l.any p=false:=by simpa using h
  simp [this]
 | some i =>
  have:l.any p=true:=by
   have h2:(l.findIdx? p).isSome=true:=by rw [h];rfl
   rwa [List.findIdx?_isSome] at h2
  simp [this]
def uni(k:Nat)(L:Lqq):Prop:=∀ x∈L,x.length=k
theorem aDg{k:Nat}{x:List Int}{L:Lqq}(h:uni k (x::L)):uni k L:=fun y hy=>h y (kQ6 _ hy)
theorem aJi{k:Nat}:∀ {L:Lqq} (i:Nat),uni k L→(L.flatten).drop (i*k)=(L.drop i).flatten
 | [],i,_=>by simp
 | x::L,0,_=>by simp
 | x::L,i+1,h=>by
  have hx:=h x (by simp)
  rw [wN,List.drop_succ_cons,← aJi i (aDg h),List.drop_append];rw [List.drop_eq_nil_of_le (by rw [hx,aFp];omega),List.nil_append]
  congr 1
  rw [hx,aFp];omega
theorem aJj{k:Nat}:∀ {L:Lqq} (i:Nat),uni k L→(L.flatten).take (i*k)=(L.take i).flatten
 | [],i,_=>by simp
 | x::L,0,_=>by simp
 | x::L,i+1,h=>by
  have hx:=h x (by simp)
  rw [wN,List.take_succ_cons,wN,← aJj i (aDg h),List.take_append];rw [List.take_of_length_le (by rw [hx,aFp];omega)]
  congr 2
  rw [hx,aFp];omega
theorem pZ{k:Nat}:∀ {L:Lqq},uni k L→(L.flatten).length=L.length*k
 | [],_=>by simp
 | x::L,h=>by rw [wN,kT,pZ (aDg h),h x (by simp),qZ,aFp];omega
theorem bSm{k i:Nat}{L:Lqq}{x:List Int}(h:uni k L)(hx:L[i]? = some x):((L.flatten).drop (i*k)).take k=x:=by
 have hl:x.length=k:=h x (kQ5 hx);obtain ⟨hi,he⟩:=kQ3.1 hx;rw [aJi i h,aZb hi,wN,he,List.take_append_of_le_length (by omega),List.take_of_length_le (by omega)]
theorem bH{k i:Nat}{L:Lqq}{x:List Int}(h:uni k L)(hx:L[i]? = some x):i*k+k≤(L.flatten.map aB).length:=by
 obtain ⟨hi,_⟩:=kQ3.1 hx;rw [eR,pZ h];have:(i+1)*k≤L.length*k:=Nat.mul_le_mul_right _ hi;rw [aFp] at this;exact this
theorem aT{k i:Nat}{L:Lqq}{x:List Int}(h:uni k L)(hx:L[i]? = some x):some (PV.agg (((L.flatten.map aB).drop (i*k)).take k))=some (.agg (x.map aB)):=by
 rw [← List.map_drop,← List.map_take,bSm h hx]
theorem kB{k i f:Nat}{L:Lqq}{x:List Int}{y:Int}(h:uni k L)(hx:L[i]? = some x)(hy:x[f]? = some y):(L.flatten.map aB)[i*k+f]? = some (aB y):=by
 have hl:x.length=k:=h x (kQ5 hx);have hf:f<k:=by rw [← hl];exact (kQ3.1 hy).1
 have:=congrArg (·[f]?) (bSm h hx)
 simp only [List.getElem?_take,hf,if_true,List.getElem?_drop] at this
 rw [jA,this,hy];rfl
theorem rV{k i:Nat}{L:Lqq}{x:List Int}(h:uni k L)(hi:i<L.length)(hx:x.length=k):((L.flatten.map aB).take (i*k)++x.map aB++(L.flatten.map aB).drop (i*k+k))=((L.set i x).flatten.map aB):=by
 have e:i*k+k=(i+1)*k:=by rw [aFp]
 rw [← List.map_take,← List.map_drop,← gJ,← gJ,aJj i h,e,aJi (i+1) h];rw [List.set_eq_take_append_cons_drop,if_pos hi,bHo,wN,List.append_assoc]
theorem aVt{k i:Nat}{L:Lqq}{x:List Int}(h:uni k L)(hx:x.length=k):uni k (L.set i x):=fun y hy=>by
 rcases List.mem_or_eq_of_mem_set hy with h1 | rfl
 ·exact h y h1
 ·exact hx
theorem len2{x:List Int}(h:x.length=2):∃ a b,x=[a,b]:=by
 match x,h with
 | [a,b],_=>exact ⟨a,b,rfl⟩
theorem bR{k:Nat}{L:Lqq}{i:Int}{x:List Int}(hk:0<k)(hu:uni k L)(h0:0≤i)(h:L[i.toNat]? = some x):0≤i∧i<(L.length:Int)∧i.toNat*k<(L.flatten.map aB).length:=by
 have h1:=bH hu h;obtain ⟨h2,_⟩:=kQ3.1 h;exact ⟨h0,by omega,by omega⟩
theorem aO{n:Nat}(h:n≤1000000):inR ((n:Nat):Int):=by unfold inR;omega
theorem bC{α:Type}{l:List α}{i:Nat}{x:α}(h:l[i]? = some x):i<l.length:=(kQ3.1 h).1
abbrev small(n:Nat):Prop:=n<1000000
end
end KV
end Go.Proofs
section
namespace Go.Proofs
open Go.ChangeShapes Go.WideShapes Go.ChangeAt Go.RowKit
namespace KV
variable {P:Program} {W W':World}

def CxW(W:World):Cx:={ ι:=fun _=>none,κ:=fun _=>0,F:=fun b=>b<W.heap.size }
theorem cBn(W:World):aR P (CxW W) [] W:=⟨fun i ty n cs h=>by simp at h,fun i ty cs h=>by simp at h,fun i es cl h=>by simp at h,fun i i' o o' b h=>by simp at h,fun i o b h=>by simp at h,fun b h=>h,fun i o b h=>by simp at h⟩

theorem FV.law{f:Nat}{args:List AV}{us:List Value}(h:∀ base:Nat,FV P f args base (.p (blP true)) [])(hn:jS args=true)(hus:dD (CxW W) [] W args us):Calls P f us.toArray W fun e W'=>e = .returned (.bool true)∧Below W.heap.size W W':=by
 have hc:=(h 0).fc (bs:=[]) hn [] (fun p hp=>by simp at hp) rfl
 refine (callsIn_wide (n:=0)).1 ((hc (fun j _=>by rw [gN];cases j <;> rfl) (CxW W) W us hus (cBn W) 0).mono ?_)
 rintro e w' ⟨u,rfl,C',hF,hM,hr⟩;cases hr with
 | p _ _ h =>
  cases h;exact ⟨rfl,hF.os,hF.tape,hF.out,hF.size,fun b hb=>hF.keep b hb fun id o ho=>by simp at ho⟩

section
variable {H:Type} {enc:TypeId × Value→H}
theorem uB(hl:laidOutB P=true)(hb:Below W.heap.size W W'):∀ {ts:List TypeId} {vs:List Value} {ds:List (DataW H)} {ps:List MemPlace},(ts.all fun t=>P.readableRec t && decide (t<P.types.size))=true→DataW.TrodAll enc P W 0 (fun _=>true) true ts vs ds ps→(∀ x∈ps,x.block<W.heap.size) →
  DataW.TrodAll enc P W' 0 (fun b=>decide (b<W.heap.size)) true ts vs ds ps
 | [],[],[],_,_,h,_=>h
 | t::ts,v::vs,d::ds,ps,hr,⟨p,q,h1,h2,e⟩,hlt=>by
  rw [List.all_cons,kQ7,kQ7,decide_eq_true_eq] at hr
  subst e;exact ⟨p,q,Below.trod hl hr.1.1 hr.1.2 h1 hb (fun x hx=>hlt x (nZ _ hx)),uB hl hb hr.2 h2 (fun x hx=>hlt x (aDf _ hx)),rfl⟩
 | [],_::_,_,_,_,h,_=>h.elim
 | _::_,[],_,_,_,h,_=>h.elim
 | [],[],_::_,_,_,h,_=>h.elim
 | _::_,_::_,[],_,_,h,_=>h.elim

theorem aXk{a:Addr}{v:Value}(h:W.cell? (a.add 0)=some v):a=⟨a.block,a.off,none⟩:=by
 obtain ⟨b,o,s⟩:=a;cases s with
 | none=>rfl
 | some x =>
  unfold World.cell? at h
  simp only [Addr.add,if_true] at h
  split at h <;> simp at h

theorem aGb{t e:TypeId}{k:IntKind}{v:Value}{d:DataW H}{ps:List MemPlace}{base:Nat}(ht:P.underlying t=some (.slice e))(he:P.underlying e=some (.int k))(hc:P.cellsOf e=1)(hok:Value.okWide P W .any base t v)
  (h:DataW.Trod enc P W 0 (fun _=>true) true t v d ps):∃ l:List Int,cN (CxW W).F W (.sl l.length (l.map fun n => .v (.int k n))) v∧(∀ n∈l,(Lit.int k n).wf=true)∧l.length≤maxLen:=by
 obtain ⟨a0,len,cap,rfl⟩:=okWide_slice ht hok;obtain ⟨fuel,hf⟩:=h
 rcases open_ints ht he hc hf with ⟨hcs,hx⟩ | ⟨a,len',cap',zs,hcs,_,hl,hm,hz,hx,hcell,hwz⟩
 ·simp [Value.cells] at hcs
  obtain ⟨rfl,rfl,rfl⟩:=hcs;exact ⟨[],.sl 0 [] none 0 (fun _=>undef) (dM _) (Nat.zero_le _) (fun i h=>by simp at h) (fun i h=>by simp at h) (fun i h=>by simp at h),fun n h=>by simp at h,Nat.zero_le _⟩
 ·simp [Value.cells] at hcs
  obtain ⟨rfl,rfl,rfl⟩:=hcs;simp only [if_true] at hz
  have hlen:(zs.take len).length=len:=by rw [mY];omega
  refine ⟨zs.take len,?_,fun n hn=>hwz n (List.mem_of_mem_take hn),by rw [hlen];omega⟩
  rw [hlen];refine .sl len _ (some a) cap (fun i => .int k (zs.getD i 0)) hl hm (fun i hi => ?_) (fun i hi => ?_) (fun i hi=>rfl)
  ·have hi':i<len:=by rw [eR,hlen] at hi;exact hi
   have q1:=aXk (hcell 0 (by omega))
   have q2:=hcell i (by omega)
   rw [q1,Addr.add_lit] at q2
   exact ⟨a.block,a.off,by rw [← q1],World.block_lt_of_cell? W ⟨a.block,a.off+i,none⟩ q2,q2⟩
  ·have hi':i<len:=by rw [eR,hlen] at hi;exact hi
   simp only [mZ,List.getElem_take];have:zs.getD i 0=zs[i]'(by omega):=by rw [kQ4,kQ0 (by omega)];rfl
   rw [this];exact .v _
end
end KV
end Go.Proofs
end
section
namespace Go.Proofs
open Go.ChangeShapes Go.WideShapes Go.ChangeAt Go.RowKit Go.Deep
namespace KV
section
variable {P:Program} {W W':World} {H:Type} {enc:TypeId × Value→H}
end
end KV
end Go.Proofs
end
section
namespace Go.Proofs
open Go.RowKit
namespace KV
variable {P:Program} {T:TT} {E:Env} {C C0:Cx} {M M0:Mem} {w w0:World}
def fD(P:Program)(k:Nat)(c:Code)(st:St)(e:Ex)(st':St):Prop:=∀ (C0:Cx) (M0:Mem) (w0:World) (a:Act) (w:World),M0.length≤k→Sim P C0 M0 w0 st a w→∀ (ro:Option Nat) (n:Nat),c.wpIn (Fen ro) n P (fun e' a' w'=>e'=e.toExit∧Sim P C0 M0 w0 st' a' w') a w
theorem fD.cast{k:Nat}{c:Code}{st st1 st2:St}{e:Ex}(h:fD P k c st e st1)(q:st1=st2):fD P k c st e st2:=q ▸ h
theorem bIr(hT:∀ t i,T t=some i→cJ P t=some i)(hE:mE P E)(hm:P.follows .mixedOrders=true){id:Nat}{ops:Array Oper}{d:Bool}{st st':St}{s s':AS}(h:aLt P T E ops d st s=some (st',s'))(g:bB s'){k:Nat}:fD P k (.region id ops d) st .normal st':=by
 intro C0 M0 w0 a w _ hs ro n;cases d with
 | false =>
  refine wpIn_region ?_;have:=uQ hT hE ops.toList 0 (fun j=>by simp) h g C0 M0 w0 a w hs ro n (fun e' a' w'=>e'=Ex.normal.toExit∧Sim P C0 M0 w0 st' a' w') (fun a' w' h'=>⟨rfl,h'⟩)
  simpa using this
 | true =>
  obtain ⟨_,s1,h1,k1⟩:=aD h;obtain ⟨e1,rfl⟩:=aG h1;obtain ⟨r,s2,h2,k2⟩:=aD k1;obtain ⟨_,s3,h3,k3⟩:=aD k2;obtain ⟨e3,rfl⟩:=aG h3;obtain ⟨rfl,rfl⟩:=aJ k3;obtain ⟨hB,_⟩:=bP e1;obtain ⟨hA,_⟩:=bP e3;obtain ⟨os,hfts,hlex⟩:=rE ops.toList _ (fts:=r.1) (fin:=r.2) h2 g
  replace hB:=xK hB
  unfold Region.lexB at hB
  rw [kQ7] at hB
  have hlen:os.length=ops.toList.length:=by
   have:∀ {l:List Oper} {id:Nat} {st:St} {os:List vT} {fin:St},aLu P T E ops.toList id l st os fin→os.length=l.length:=by
    intro l
    induction l with
    | nil=>intro id st os fin h;cases h;rfl
    | cons o l ih=>intro id st os fin h;cases h with | cons _ _ _ _ q os _ h hr=>simp [ih hr]
   exact this hlex
  have key:oX P T E ops.toList st.m.length (fun k=>os.getD k (.any,[],none)) r.2 ops.toList.length (Array.replicate ops.size false) st:=by
   refine oX.lex ops.toList 0 _ st os (fun j=>by simp) (fun j q hj=>by simp [kQ4,hj]) (fun j hj=>absurd hj (aRg _)) (fun j oj hj hl => ?_) (fun i j _ hij hj => ?_) (by simpa using hB.2) (by simpa [ido] using hlex)
   ·exfalso
    rcases Nat.lt_or_ge j ops.size with h' | h'
    ·simp [h'] at hl
    ·simp [Nat.not_lt.2 h'] at hl
   have hj2:j<os.length:=by
    rw [hlen];obtain ⟨o,ho⟩:=Option.isSome_iff_exists.1 hj;exact (kQ3.1 ho).1
   have:=nK r.1 0 hA i j (aBv os[i]) (aBv os[j]) hij (by rw [hfts,jA,kQ0 (by omega)];rfl) (by rw [hfts,jA,kQ0 hj2];rfl)
   rw [gN,gN] at this
   simp only [kQ4,kQ0 hj2,kQ0 (show i<os.length by omega),Option.getD_some,Array.toArray_toList]
   exact this
  refine wpIn_region_any hm ?_;have:=oX.sound hT hE (C0:=C0) (M0:=M0) (w0:=w0) (ro:=ro) (n:=n) (Q:=fun e' a' w'=>e'=Ex.normal.toExit∧Sim P C0 M0 w0 r.2 a' w') (fun a' w' h'=>⟨rfl,h'⟩) _ _ _ a _ key (hs.drawn (w.drawn+1))
  simpa using this


noncomputable def bIs(c:Code)(st:St):Ask (Ex × St):=match c with
 | .region _ ops d=>do
  let st' ← aLt Tp tT EO ops d st
  pure (.normal,st')
 | _=>fail
theorem fD.fin{k:Nat}{c:Code}{st st':St}{e:Ex}{g:Gh}{o:List OI}{l:List Prop}(h:aAl k g (bIs c st (asg o))=some (e,st',l,[]))(gd:bB (out l)):fD Tp k c st e st':=by
 unfold aAl at h
 split at h
 ·rename_i e1 st1 s hr
  split at h
  ·rename_i st2 hg
   simp only [Option.some.injEq,Prod.mk.injEq] at h
   obtain ⟨rfl,rfl,rfl,hs⟩:=h;unfold bIs at hr
   split at hr
   ·rename_i id ops d
    obtain ⟨st3,s1,h1,k1⟩:=aD hr;obtain ⟨he,rfl⟩:=aJ k1;cases he;intro C0 M0 w0 a w hk hsm ro n;exact wpIn_mono (bIr (k:=k) aHf aHe mixed h1 (fun p hp=>gd p hp) C0 M0 w0 a w hk hsm ro n) (fun _ _ _ hq=>⟨hq.1,eQ hk hg hq.2⟩)
   ·exact (aW hr).elim
  ·cases h
 ·cases h
theorem fD.fi{k:Nat}{c:Code}{st st':St}{e:Ex}(g:Gh)(o:List OI){l:List Prop}(gd:bB (out l))(h:aAl k g (bIs c st (asg o))=some (e,st',l,[]):=by kernel_rfl):fD Tp k c st e st':=fD.fin h gd
end KV
end Go.Proofs
end
section
namespace Go.Proofs
open Go.RowKit
namespace KV
variable {P:Program} {C C0:Cx} {M M0:Mem} {w w0:World}

def mF(w:World)(b:Nat):Prop:=∃ o:Obj,w.heap[b]? = some o∧o.isCells=true
theorem vD{b o:Nat}{v:Value}(h:w.cell? ⟨b,o,none⟩=some v):mF w b:=cells_of_cell h
theorem fN{b ty:Nat}{arr:Array Value}{fr:Nat × Nat}(h:w.heap[b]? = some (.cells arr ty fr)):mF w b:=⟨_,h,rfl⟩

mutual
def nmP:PV→Bool
 | .v _=>true
 | .sl _ cs=>kC cs
 | .agg cs=>kC cs
 | .mp _=>false
 | .rp cs _=>kC cs
def kC:List PV→Bool
 | []=>true
 | x::r=>nmP x && kC r
end
theorem qD:∀ {l:List PV},kC l=true→∀ (i:Nat) (h:i<l.length),nmP l[i]=true
 | [],_,i,h=>by simp at h
 | x::r,hl,i,h=>by
  rw [kC,kQ7] at hl
  cases i with
  | zero=>exact hl.1
  | succ i=>exact qD hl.2 i (by simpa using h)
theorem aDr{α:Type}(g:α→PV)(h:∀ x,nmP (g x)=true):∀ l:List α,kC (l.map g)=true
 | []=>rfl
 | x::r=>by rw [gZ,kC,h,aDr g h r];rfl
mutual
def nmA:AV→Bool
 | .p x=>nmP x
 | .rp cs _=>kC cs
 | .agg l=>nmL l
 | .tup l=>nmL l
 | .fn _ a b=>nmL a && nmL b
 | _=>true
def nmL:List AV→Bool
 | []=>true
 | x::r=>nmA x && nmL r
end
theorem vE:∀ {l:List AV},nmL l=true→∀ (i:Nat) (h:i<l.length),nmA l[i]=true
 | [],_,i,h=>by simp at h
 | x::r,hl,i,h=>by
  rw [nmL,kQ7] at hl
  cases i with
  | zero=>exact hl.1
  | succ i=>exact vE hl.2 i (by simpa using h)
def nmM:Mem→Bool
 | []=>true
 | some (.row _ _ cs)::r=>kC cs && nmM r
 | some (.box _ l)::r=>nmL l && nmM r
 | _::r=>nmM r
theorem aDs:∀ {m:Mem},nmM m=true→(∀ (i ty n:Nat) (cs:List PV),m[i]? = some (some (.row ty n cs))→kC cs=true)∧∀ (i ty:Nat) (l:List AV),m[i]? = some (some (.box ty l))→nmL l=true
 | [],_=>⟨fun i ty n cs h=>by simp at h,fun i ty l h=>by simp at h⟩
 | x::r,hm=>by
  have hr:nmM r=true:=by
   cases x with
   | none=>exact hm
   | some o=>cases o <;> simp [nmM] at hm <;> first | exact hm.2 | exact hm
  obtain ⟨h1,h2⟩:=aDs hr;refine ⟨fun i ty n cs h => ?_,fun i ty l h => ?_⟩
  ·cases i with
   | zero=>simp at h;subst h;simp [nmM] at hm;exact hm.1
   | succ i=>exact h1 i ty n cs (by simpa using h)
  ·cases i with
   | zero=>simp at h;subst h;simp [nmM] at hm;exact hm.1
   | succ i=>exact h2 i ty l (by simpa using h)
theorem cN.shrink{F F':Nat→Prop}{x:PV}{u:Value}(h:cN F w x u)(hF:∀ b,F b→mF w b→F' b)(hm:nmP x=true):cN F' w x u:=by
 induction h with
 | v x=>exact .v x
 | sl n cs p cap us h1 h2 h3 _ h5 ih =>
  rw [nmP] at hm
  refine .sl n cs p cap us h1 h2 (fun i hi => ?_) (fun i hi=>ih i hi (qD hm i hi)) h5
  obtain ⟨b,o,hp,hb,hc⟩:=h3 i hi;exact ⟨b,o,hp,hF b hb (vD hc),hc⟩
 | agg cs vs h0 h1 _ ih =>
  rw [nmP] at hm
  exact .agg cs vs h0 h1 fun i hi=>ih i hi (qD hm i hi)
 | mp=>simp [nmP] at hm
 | rp cs off b o us h1 _ h3 ih =>
  rw [nmP] at hm
  exact .rp cs off b o us (fun i hi=>⟨hF b (h1 i hi).1 (vD (h1 i hi).2),(h1 i hi).2⟩) (fun i hi=>ih i hi (qD hm i hi)) h3
theorem Rep.shrink{F':Nat→Prop}{x:AV}{u:Value}(h:Rep C M w x u)(hF:∀ b,C.F b→mF w b→F' b)(hm:nmA x=true):Rep ⟨C.ι,C.κ,F',[]⟩ M w x u:=by
 induction h with
 | p x u h=>exact .p x u (h.shrink hF (by simpa [nmA] using hm))
 | any u=>exact .any u
 | kb b=>exact .kb b
 | yld l=>exact .yld l
 | own id u h0 ha h=>exact .own id u h0 ha h
 | arr id off n u h0 ha h=>exact .arr id off n u h0 ha h
 | ptr id off u h0 ha h hp=>exact .ptr id off u h0 ha h hp
 | mp id u h0 ha h=>exact .mp id u h0 ha h
 | pa id q u h0 ha h=>exact .pa id q u h0 ha h
 | rp cs off b o us h1 h2 h3 =>
  have hm':kC cs=true:=by simpa [nmA] using hm
  exact .rp cs off b o us (fun i hi=>⟨hF b (h1 i hi).1 (vD (h1 i hi).2),(h1 i hi).2⟩) (fun i hi=>(h2 i hi).shrink hF (qD hm' i hi)) h3
 | agg cs vs h0 h1 _ ih =>
  have hm':nmL cs=true:=by simpa [nmA] using hm
  exact .agg cs vs h0 h1 fun i hi=>ih i hi (vE hm' i hi)
 | tup cs vs h1 _ ih =>
  have hm':nmL cs=true:=by simpa [nmA] using hm
  exact .tup cs vs h1 fun i hi=>ih i hi (vE hm' i hi)
 | fn f cs ds us vs h1 h2 _ _ ih1 ih2 =>
  have hm':nmL cs=true∧nmL ds=true:=by simpa [nmA] using hm
  exact .fn f cs ds us vs h1 h2 (fun i hi=>ih1 i hi (vE hm'.1 i hi)) fun i hi=>ih2 i hi (vE hm'.2 i hi)

def zS(M:Mem):Prop:=(∀ (i:Nat) (es:List (Value × PV)) (cl:Nat),M[i]? ≠ some (some (.mp es cl)))∧aQc M
def fZ:Mem→Bool
 | []=>true
 | some (.pk _ _ _ _)::_=>false
 | some (.mp _ _)::_=>false
 | _::r=>fZ r
theorem eG:∀ {m:Mem},fZ m=true→zS m
 | [],_=>⟨fun i es cl h=>by simp at h,fun i o h=>by simp at h⟩
 | none::r,hm=>by
  obtain ⟨h1,h2⟩:=eG (m:=r) hm;refine ⟨fun i es cl h => ?_,fun i o h => ?_⟩
  ·cases i with
   | zero=>simp at h
   | succ i=>exact h1 i es cl (by simpa using h)
  ·cases i with
   | zero=>simp at h
   | succ i=>exact h2 i o (by simpa using h)
 | some x::r,hm=>by
  have hr:fZ r=true∧x.isPk=false∧∀ es cl,x ≠ .mp es cl:=by
   cases x with
   | pk=>simp [fZ] at hm
   | mp=>simp [fZ] at hm
   | _=>exact ⟨by simpa [fZ] using hm,rfl,fun _ _ e=>by cases e⟩
  obtain ⟨h1,h2⟩:=eG (m:=r) hr.1;refine ⟨fun i es cl h => ?_,fun i o h => ?_⟩
  ·cases i with
   | zero=>simp at h;exact hr.2.2 _ _ h
   | succ i=>exact h1 i es cl (by simpa using h)
  ·cases i with
   | zero=>simp at h;rw [← h];exact hr.2.1
   | succ i=>exact h2 i o (by simpa using h)

theorem vF{M':Mem}{W:World}(hn:zS M')(hq:nmM M'=true)(hF:∀ b,C.F b→b<w.heap.size){C':Cx}(hM:aR P C' M' W)(f:Fr C M w C' M' W) :
  ∃ C'',aR P C'' M' W∧Fr C M w C'' M' W∧(∀ b,C''.F b→b<w.heap.size∨mF W b):=by
 refine ⟨⟨C'.ι,C'.κ,fun b=>C'.F b∧(b<w.heap.size∨mF W b),[]⟩,⟨fun i ty n cs hm => ?_,fun i ty cs hm => ?_,fun i es cl hm=>absurd hm (hn.1 _ _ _),hM.inj,fun i o b ho hl hb hf=>hM.nF i o b ho hl hb hf.1,fun b hb=>hM.Fs b hb.1,hM.lt⟩,
  ⟨f.os,f.tape,f.out,f.size,f.keep,f.ids,f.row,f.liv,f.new,fun b hb=>⟨f.F1 b hb,.inl (hF b hb)⟩,fun b hb=>f.F2 b hb.1⟩,fun b hb=>hb.2⟩
 ·rcases hM.row _ _ _ _ hm with h4 | ⟨b,arr,inf,q0,q1,q2,q3,q4,q5,q6,q7,q8⟩
  ·exact .inl h4
  ·exact .inr ⟨b,arr,inf,q0,q1,q2,q3,q4,q5,q6,fun j hj=>(q7 j hj).shrink (fun b hb hs=>⟨hb,.inr hs⟩) (qD ((aDs hq).1 _ _ _ _ hm) j hj),q8⟩
 ·obtain ⟨b,arr,q0,q1,q2,q3,q4⟩:=hM.box _ _ _ hm
  exact ⟨b,arr,q0,q1,q2,fun j hj=>(q3 j hj).shrink (fun b hb hs=>⟨hb,.inr hs⟩) (vE ((aDs hq).2 _ _ _ hm) j hj),q4⟩

def bAx(P:Program)(C:Cx)(M:Mem)(w:World)(M':Mem)(W:World):Prop:=∃ C',aR P C' M' W∧Fr C M w C' M' W

theorem jQ{W:World}{b:Nat}{o:Obj}(h:W.heap[b]? = some o)(ho:o.isCells=false):¬ mF W b:=fun ⟨o',h',hc⟩=>by rw [h] at h';cases h';rw [ho] at hc;cases hc

theorem bAx.own{M':Mem}{W W':World}{row:Option Nat}(hn:zS M')(hq:nmM M'=true)(hF:∀ b,C.F b→b<w.heap.size)(h:bAx P C M w M' W)(hg:W.grownBy W' row)
  (hr:∀ r,row=some r→w.heap.size≤r∧∃ o:Obj,W.heap[r]? = some o∧o.isCells=false):bAx P C M w M' W':=by
 obtain ⟨C1,h1,h2⟩:=h;obtain ⟨C',hM,f,hS⟩:=vF hn hq hF h1 h2;have hsame:∀ b,b<W.heap.size→(b<w.heap.size∨mF W b)→W'.heap[b]? = W.heap[b]? := fun b hb hd=>hg.block b hb (fun e=>by
  obtain ⟨q1,o,q2,q3⟩:=hr b e.symm
  rcases hd with hd | hd
  ·omega
  ·exact jQ q2 q3 hd)
 have hFz:∀ b,C'.F b→W'.heap[b]? = W.heap[b]? := fun b hb=>hsame b (hM.Fs b hb) (hS b hb)
 have hL:Le C' C' M' M' W W':=⟨fun _ o h=>⟨o,h⟩,fun _ _ _ _ _ cs h=>⟨cs,h⟩,fun _ o h o' h' hl=>by rw [h] at h';cases h';exact ⟨hl,rfl,rfl⟩,fun _ h=>h,hFz⟩
 refine ⟨C',⟨fun i ty n cs hm => ?_,fun i ty cs hm => ?_,fun i es cl hm=>absurd hm (hn.1 _ _ _),hM.inj,hM.nF,fun b hb=>kQ8 (hM.Fs b hb) hg.size,fun i o b ho hl hb=>kQ8 (hM.lt i o b ho hl hb) hg.size⟩,
  ⟨hg.os.trans f.os,hg.tape.trans f.tape,hg.output.trans f.out,fT f.size hg.size,fun b hb hno=>(hsame b (kQ8 hb f.size) (.inl hb)).trans (f.keep b hb hno),f.ids,f.row,f.liv,f.new,f.F1,f.F2⟩⟩
 ·rcases hM.row _ _ _ _ hm with h4 | ⟨b,arr,inf,q0,q1,q2,q3,q4,q5,q6,q7,q8⟩
  ·exact .inl h4
  ·exact .inr ⟨b,arr,inf,q0,(hsame b (mM.1 q1).1 (.inr (fN q1))).trans q1,q2,q3,q4,q5,q6,fun j hj=>(q7 j hj).mono hL.F hL.fz,q8⟩
 ·obtain ⟨b,arr,q0,q1,q2,q3,q4⟩:=hM.box _ _ _ hm
  exact ⟨b,arr,q0,(hsame b (mM.1 q1).1 (.inr (fN q1))).trans q1,q2,fun j hj=>(q3 j hj).mono hL,q4⟩

structure KpG (F:Nat→Prop) (A B:World):Prop where
 size:A.heap.size≤B.heap.size
 same:∀ b,F b→B.heap[b]? = A.heap[b]?
theorem KpG.refl(F:Nat→Prop)(A:World):KpG F A A:=⟨dM _,fun _ _=>rfl⟩
theorem KpG.trans{F:Nat→Prop}{A B D:World}(h:KpG F A B)(k:KpG F B D):KpG F A D:=⟨fT h.size k.size,fun b hb=>(k.same b hb).trans (h.same b hb)⟩

def bTz(P:Program){α:Type}(g:AV)(encs:α→Array Value)(gf N:Nat)(S:List α→Prop):Prop:=∀ (C:Cx) (M:Mem) (w:World) (u:Value),Rep C M w g u→(∀ b,C.F b→b<w.heap.size) →
 ∃ lb Sp,u = .func (.func gf) #[] lb∧SeqStopsK Fence.wide 2 P gf lb encs (KpG C.F) S Sp N w

theorem bIx{ro:Option Nat}{n:Nat}:(Fen ro).room n:=fun d hd=>by cases hd
theorem aDt{ro:Option Nat}{n m:Nat}{c:Code}{Q:Exit→Act→World→Prop}{a:Act}(h:c.wpIn (Fen ro) n P Q a w):c.wpIn (Fen ro) m P Q a w:=fun b k cs hro hb _=>h b k cs hro hb bIx

theorem aJs{C:Cx}{M:Mem}{W:World}(hM:aR P C M W)(hn:zS M){b:Nat}{o:Obj}(h:W.heap[b]? = some o)(ho:o.isCells=false):∀ (id:Nat) (x:AO),M[id]? = some (some x)→x.live=true→C.ι id≠some b:=fun id x hx hl hb=>by
 cases x with
 | row ty n cs =>
  rcases hM.row _ _ _ _ hx with ⟨h1,_⟩ | ⟨b',arr,i,h1,h2,_⟩
  ·rw [hb] at h1;cases h1
  ·rw [hb] at h1;cases h1;exact jQ h ho (fN h2)
 | box ty cs =>
  obtain ⟨b',arr,h1,h2,_⟩:=hM.box _ _ _ hx;rw [hb] at h1;cases h1;exact jQ h ho (fN h2)
 | mp es cl=>exact hn.1 _ _ _ hx
 | pk to ti sz L=>have:=hn.2 _ _ hx;cases this
 | dead=>cases hl

theorem zip2'(p q:Nat)(a b:Value)(t:Array Value):(#[p,q].zip #[a,b]).foldl (fun t (x:Nat × Value)=>t.setIfInBounds x.1 x.2) t=(t.setIfInBounds p a).setIfInBounds q b:=by simp

end KV
end Go.Proofs
end
section
namespace Go.Proofs
open Go.RowKit
namespace KV
variable {P:Program} {n:Nat}
def aHm{α:Type}(F:Fence)(n:Nat)(P:Program)(g:Nat)(lb:Array Value)(encs:α→Array Value)(R:α→World→World→Prop)(Kp:World→World→Prop)(S Sp:List α→Prop)(N:Nat)(w:World):Prop :=
 ∀ (l:Nat) (J Jx:List α→World→Prop) (W:World),Below w.heap.size w W→AbidesFrom W.heap.size J→AbidesFrom W.heap.size Jx →
  (∀ pre x W0 W1,J pre W0→W0.grownBy W1 none→R x W0 W1→pre.length<N→YieldAt F (n-1) P l (encs x) W1 fun e W' =>
   (e = .returned (.bool true)∧J (pre++[x]) W'∧Kp W0 W')∨(e = .returned (.bool false)∧Jx (pre++[x]) W')) →
  J [] W →
  CallsIn F n P g (#[.func (.yield l) #[] #[]]++lb) W fun e W'=>(∃ v,e = .returned v)∧((∃ xs,S xs∧J xs W')∨(∃ pre,Sp pre∧Jx pre W'))

def bIw{α:Type}(B:Nat)(Kp:World→World→Prop)(I:List α→World→Prop)(Ix:Code→List α→World→Prop)(xs:List α)(V W:World):Exit→Act→World→Prop
 | .normal,_,W'=>KeepsFrom B W W'∧Kp V W'∧I xs W'
 | .ret,_,W'=>KeepsFrom B W W'∧Ix .ret xs W'
 | .exit id,_,W'=>KeepsFrom B W W'∧Ix (.exit id) xs W'
 | .goto t,_,W'=>KeepsFrom B W W'∧Ix (.goto t) xs W'
 | .panic _,_,_=>False
 | .outgrown,_,_=>False

theorem tU{α:Type}{F:Fence}{g:Operand}{ps:Array Tmp}{assign body:Code}{Q:Exit→Act→World→Prop}{a:Act}{w:World}
  (hro:F.round=none) (h1:1≤n) {gf:Nat} {lb:Array Value} (hg:a.eval g = .func (.func gf) #[] lb) (hFg:F.fn gf) (eg:∀ args w,(callFunc gf args).run P w = .ok (.enter gf args) w)
  {encs:α→Array Value} {R:α→World→World→Prop} {Kp:World→World→Prop} {S Sp:List α→Prop} {N:Nat} {w0:World} (hseq:aHm F (n-1) P gf lb encs R Kp S Sp N w0)
  (hKt:∀ {A B C:World},Kp A B→Kp B C→Kp A C) (hKb:∀ (W:World) (l:Nat) (o o':Obj),w.heap.size≤l→W.heap[l]? = some o→o.isCells=false→o.isWalk=false→Kp W (W.putObj l o')) (hb0:Below w0.heap.size w0 w) (hps:∀ x,(encs x).size=ps.size)
  (I:List α→World→Prop) (Ix:Code→List α→World→Prop) (hI:OwnFrom w.heap.size I) (hIx:∀ c,OwnFrom w.heap.size (Ix c)) (h0:I [] w) (Ax:List α→α→World→Act→World→Prop) (hAx:∀ pre x V a',OwnFrom w.heap.size (fun (_:Unit) W=>Ax pre x V a' W))
  (hassign:∀ (l:Nat) (pre:List α) (x:α) (V W:World) (K:Act→World→Prop),I pre V→V.grownBy W none→R x V W→(∀ a' W',KeepsFrom w.heap.size W W'→Ax pre x V a' W'→K a' W') →
   assign.wpIn (F.inRound l) (n-1-1) P (Exit.then K (fun _ _ _=>False)) { tmps:=(ps.zip (encs x)).foldl (fun t (p,v)=>t.setIfInBounds p v) a.tmps,defers:=[] } W)
  (hbody:∀ (l:Nat) (pre:List α) (x:α) (a':Act) (V W:World),w.heap.size≤l→(∃ r,W.heap[l]? = some (.loop r))→Ax pre x V a' W→pre.length<N→body.wpIn (F.inRound l) (n-1-1) P (bIw w.heap.size Kp I Ix (pre++[x]) V W) a' W)
  (hdone:∀ (D:Nat) (xs:List α) (W:World),w.heap.size≤D→S xs→I xs W→W.heap[D]? = some (.deferred (some []))→Q .normal { a with defers:={ target := .collected D,args := #[] }::a.defers } W)
  (hstop:∀ (D:Nat) (c:Code) (pre:List α) (W:World),w.heap.size≤D→Sp pre→Ix c pre W→W.heap[D]? = some (.deferred (some []))→c.wpIn F n P Q { a with defers:={ target := .collected D,args := #[] }::a.defers } W) :
  (Code.rangeFunc g ps assign body).wpIn F n P Q a w:=by
 refine wpIn_rangeFunc fun fn hfn => ?_
 rw [hro];obtain ⟨rc,hrc⟩:∃ rc:LoopState→Option Code→Loop,rc=fun st pe=>{ state:=st,pending:=pe,fn,tmps:=a.tmps,params:=ps,assign,body,defers:=w.heap.size }:=⟨_,rfl⟩
 obtain ⟨W1,hW1⟩:∃ W1,(w.alloc (.deferred (some []))).alloc (.loop (rc .ready none))=W1:=⟨_,rfl⟩;have hsz:W1.heap.size=w.heap.size+2:=by rw [← hW1];simp
 have hL1:W1.heap[w.heap.size+1]? = some (.loop (rc .ready none)):=by
  have:=World.alloc_heap_new (w.alloc (.deferred (some []))) (.loop (rc .ready none));rw [World.size_alloc] at this
  rw [← hW1];exact this
 have hK1:W1.heap[w.heap.size]? = some (.deferred (some [])):=by
  rw [← hW1];exact (Below.heap_alloc _ _ _ (by simp)).trans (World.alloc_heap_new w _)
 have hI1:I [] W1:=by rw [← hW1];exact hI.alloc _ (hI.alloc _ h0)
 have hb1:Below w0.heap.size w0 W1:=by
  rw [← hW1];exact hb0.trans ((((Below.refl _ w).alloc (dM _) _).alloc (by simp) _).mono hb0.size)
 let Bk (st:LoopState) (pe:Option Code) (W:World):Prop:=W.heap[w.heap.size+1]? = some (.loop (rc st pe))∧W.heap[w.heap.size]? = some (.deferred (some []))
 have bkKeep:∀ {st:LoopState} {pe:Option Code} {A B:World} {row:Option Nat},Bk st pe A→A.grownBy B row→(∀ r,row=some r→∃ o:Obj,A.heap[r]? = some o∧o.isWalk=true)→Bk st pe B:=fun hs hg' hr =>
  ⟨(grownBy_keeps hg' hr hs.1 rfl).trans hs.1,(grownBy_keeps hg' hr hs.2 rfl).trans hs.2⟩
 have walkOwn:∀ {A:World} {row:Option Nat},(∀ r,row=some r→W1.heap.size≤r∧∃ o:Obj,A.heap[r]? = some o∧o.isWalk=true)→∀ r,row=some r→w.heap.size≤r∧∃ o:Obj,A.heap[r]? = some o∧o.isCells=false:=fun hr r e=>by
  obtain ⟨hB,o,ho,hw⟩:=hr r e;exact ⟨by omega,o,ho,Obj.not_cells_of_walk hw⟩
 refine ⟨w.heap.size+1,[{ target := .collected w.heap.size,args := #[] }],W1,{ target := .fn (.func gf) lb,args := #[.func (.yield (w.heap.size+1)) #[] #[]] },W1,gf,
  #[.func (.yield (w.heap.size+1)) #[] #[]]++lb,W1,?_,?_,?_,?_,fun _=>h1,?_⟩
 ·rw [← hW1,hrc];exact run_enterLoop_outer _ _ _ _ _
 ·simp only [resolve,hg]
  simp [go_sem]
 ·intro f' hf';simp [Target.leads] at hf';subst hf';exact hFg
 ·simp [invoke,go_sem,eg]
 ·refine (hseq (w.heap.size+1) (fun pre W=>I pre W∧Bk .ready none W) (fun pre W=>∃ c,Ix c pre W∧Bk .done (some c) W) W1 hb1
   (fun s A B row hs hg' hr=>⟨hI s A B row hs.1 hg' (walkOwn hr),bkKeep hs.2 hg' fun r e=>(hr r e).2⟩)
   (fun s A B row hs hg' hr=>by
    obtain ⟨c,hc,hb⟩:=hs;exact ⟨c,hIx c s A B row hc hg' (walkOwn hr),bkKeep hb hg' fun r e=>(hr r e).2⟩)
   ?_ ⟨hI1,hL1,hK1⟩).mono ?_
  ·-- a round
   rintro pre x V W ⟨hi,hbk⟩ hg' hR hlen;have hbW:=bkKeep hbk hg' (fun r e=>by cases e)
   have hlt:w.heap.size+1<W.heap.size:=(mM.1 hbW.1).1;have hy:=run_yield (P:=P) (args:=encs x) hbW.1 (by rw [hrc];exact hps x)
   rw [hrc] at hy
   refine ⟨fn,_,assign,body,hy,roundIn_of_wpIn hfn (hassign _ pre x V W _ hi hg' hR ?_)⟩;clear hy;intro a' Wa hkf hax;have hl:=hkf.same _ _ (by omega) hbW.1 rfl
   have hk:=hkf.same _ _ (dM _) hbW.2 rfl;have hlta:w.heap.size+1<Wa.heap.size:=(mM.1 hl).1;refine ⟨_,run_beginRound hl (by rw [hrc]),?_⟩
   have hl2:(Wa.putObj (w.heap.size+1) (.loop { rc .ready none with state := .busy })).heap[w.heap.size+1]? = some (.loop { rc .ready none with state := .busy }):=World.putObj_heap_same hlta
   have hk2:(Wa.putObj (w.heap.size+1) (.loop { rc .ready none with state := .busy })).heap[w.heap.size]? = some (.deferred (some [])):=(World.putObj_heap_other (by omega)).trans hk
   refine wpIn_mono (hbody _ pre x a' V _ (by omega) ⟨_,hl2⟩ ((hAx pre x V a').putObj (s:=()) _ hax (by omega) hl rfl) hlen) ?_
   have fin:∀ (jump:Option Code) (W3:World),KeepsFrom w.heap.size (Wa.putObj (w.heap.size+1) (.loop { rc .ready none with state := .busy })) W3 →
     (Instr.endRound (w.heap.size+1) jump).run P W3 = .ok (.bool jump.isNone) (W3.putObj (w.heap.size+1) (.loop (rc (if jump.isNone then .ready else .done) jump))) ∧
     W3.heap[w.heap.size+1]? = some (.loop { rc .ready none with state := .busy })∧Bk (if jump.isNone then .ready else .done) jump (W3.putObj (w.heap.size+1) (.loop (rc (if jump.isNone then .ready else .done) jump))):=fun jump W3 hk3=>by
    have hl3:=hk3.same _ _ (by omega) hl2 rfl
    have hrun:=run_endRound (P:=P) jump hl3;rw [hrc] at hrun
    refine ⟨by rw [hrc];exact hrun,hl3,?_⟩
    exact ⟨World.putObj_heap_same (mM.1 hl3).1,(World.putObj_heap_other (by omega)).trans (hk3.same _ _ (dM _) hk2 rfl)⟩
   rintro e a3 W3 hp;cases e with
   | normal =>
    obtain ⟨hk3,hkp3,hi3⟩:=hp;obtain ⟨hr,hl3,hb4⟩:=fin none W3 hk3;exact ⟨_,_,hr,.inl ⟨rfl,⟨hI.putObj _ hi3 (by omega) hl3 rfl,hb4⟩,hKt hkp3 (hKb _ _ _ _ (by omega) hl3 rfl rfl)⟩⟩
   | ret =>
    obtain ⟨hk3,hi3⟩:=hp;obtain ⟨hr,hl3,hb4⟩:=fin (some .ret) W3 hk3;exact ⟨_,_,hr,.inr ⟨rfl,.ret,(hIx _).putObj _ hi3 (by omega) hl3 rfl,hb4⟩⟩
   | exit id =>
    obtain ⟨hk3,hi3⟩:=hp;obtain ⟨hr,hl3,hb4⟩:=fin (some (.exit id)) W3 hk3;exact ⟨_,_,hr,.inr ⟨rfl,.exit id,(hIx _).putObj _ hi3 (by omega) hl3 rfl,hb4⟩⟩
   | goto t =>
    obtain ⟨hk3,hi3⟩:=hp;obtain ⟨hr,hl3,hb4⟩:=fin (some (.goto t)) W3 hk3;exact ⟨_,_,hr,.inr ⟨rfl,.goto t,(hIx _).putObj _ hi3 (by omega) hl3 rfl,hb4⟩⟩
   | panic ch=>exact hp.elim
   | outgrown=>exact hp.elim
  ·-- behind the iterator
   rintro e W2 ⟨⟨v,rfl⟩,(⟨xs,hS,hi,hb⟩ | ⟨pre,hSp,c,hi,hb⟩)⟩
   ·have:=run_endLoop (P:=P) hb.1 (by rw [hrc];simp)
    rw [hrc] at this
    exact ⟨none,_,this,hdone _ xs _ (dM _) hS (hI.putObj _ hi (by omega) hb.1 rfl) ((World.putObj_heap_other (by omega)).trans hb.2)⟩
   ·have:=run_endLoop (P:=P) hb.1 (by rw [hrc];simp)
    rw [hrc] at this
    exact ⟨some c,_,this,hstop _ c pre _ (dM _) hSp ((hIx c).putObj _ hi (by omega) hb.1 rfl) ((World.putObj_heap_other (by omega)).trans hb.2)⟩
end KV
end Go.Proofs
end
section
namespace Go.Proofs
open Go.RowKit
namespace KV
variable {P:Program} {C C0:Cx} {M M0:Mem} {w w0:World}
abbrev mO(l:List Int):AO := .row 3 l.length (l.map aB)
def bIt(P:Program)(x:List Int × Value)(W0 W1:World):Prop:=x.1.length≤1000∧∃ C1:Cx,aR P C1 [some (mO x.1)] W1∧Rep C1 [some (mO x.1)] W1 (.own 0) x.2∧∀ b,C1.ι 0=some b→W0.heap.size≤b

theorem pF{W0 W1:World}(hg:W0.grownBy W1 none)(b:Nat)(hb:b<W0.heap.size):W1.heap[b]? = W0.heap[b]? := hg.block b hb (fun e=>by cases e)
theorem bIu{M':Mem}{W0 W1:World}{x:List Int × Value}(hM:aR P C M' W0)(hg:W0.grownBy W1 none)(hR:bIt P x W0 W1) :
  ∃ C2,aR P C2 (M'++[some (mO x.1)]) W1∧Fr C M' W0 C2 (M'++[some (mO x.1)]) W1∧Rep C2 (M'++[some (mO x.1)]) W1 (.own M'.length) x.2:=by
 obtain ⟨_,C1,h1,h2,h3⟩:=hR
 let C2:Cx:={ ι:=fun i=>if i=M'.length then C1.ι 0 else C.ι i,κ:=fun i=>if i=M'.length then C1.κ 0 else C.κ i,F:=C.F }
 have old:∀ (i:Nat) (o:AO),M'[i]? = some (some o)→i<M'.length∧(M'++[some (mO x.1)])[i]? = some (some o)∧C2.ι i=C.ι i∧C2.κ i=C.κ i:=fun i o h=>by
  have hl:=(kQ3.1 h).1;refine ⟨hl,by rw [aAh hl];exact h,if_neg (by omega),if_neg (by omega)⟩
 have cls:∀ (i:Nat) (o:AO),(M'++[some (mO x.1)])[i]? = some (some o)→M'[i]? = some (some o)∨(i=M'.length∧o=mO x.1):=fun i o h=>by
  rcases Nat.lt_or_ge i M'.length with hl | hl
  ·rw [aAh hl] at h;exact .inl h
  ·rw [aAg hl] at h
   cases hd:i-M'.length with
   | zero =>
    rw [hd] at h
    simp at h
    exact .inr ⟨by omega,h.symm⟩
   | succ j=>rw [hd] at h;simp at h
 have new:C2.ι M'.length=C1.ι 0∧C2.κ M'.length=C1.κ 0:=⟨if_pos rfl,if_pos rfl⟩;have f:Fr C M' W0 C2 (M'++[some (mO x.1)]) W1:=by
  refine ⟨hg.os,hg.tape,hg.output,hg.size,fun b hb _=>pF hg b hb,fun i o h => ?_,fun i o h ty n cs hm => ?_,fun i o h o' h' hl => ?_,fun i o b h hl hb => ?_,fun b h=>h,fun b h => .inl h⟩
  ·obtain ⟨_,q1,q2,q3⟩:=old i o h
   exact ⟨⟨o,q1⟩,q2,q3⟩
  ·rw [(old i o h).2.1] at hm;cases hm;exact ⟨cs,h⟩
  ·rw [(old i o h).2.1] at h';cases h';exact hl
  ·rcases cls i o h with q | ⟨rfl,rfl⟩
   ·rw [(old i o q).2.2.1] at hb;exact .inr ⟨i,o,q,hl,hb⟩
   ·rw [new.1] at hb;exact .inl (h3 b hb)
 have hL:=hM.le f;have hr0:=h1.row 0 3 x.1.length (x.1.map aB) rfl;refine ⟨C2,⟨fun i ty n cs hm => ?_,fun i ty cs hm => ?_,fun i es cl hm => ?_,fun i i' o1 o2 b q1 l1 q2 l2 e1 e2 => ?_,fun i o b hm hl hb => ?_,fun b hb=>kQ8 (hM.Fs b hb) hg.size,fun i o b hm hl hb => ?_⟩,f,?_⟩
 ·rcases cls i _ hm with q | ⟨rfl,q⟩
  ·obtain ⟨hlt,_,q2,q3⟩:=old i _ q
   rw [q2,q3]
   rcases hM.row _ _ _ _ q with h4 | ⟨b,arr,inf,p0,p1,p2,p3,p4,p5,p6,p7,p8⟩
   ·exact .inl h4
   ·exact .inr ⟨b,arr,inf,p0,by rw [pF hg b (hM.lt i _ b q rfl p0)];exact p1,p2,p3,p4,p5,p6,fun j hj=>(p7 j hj).mono hL.F hL.fz,p8⟩
  ·cases q
   rw [new.1,new.2]
   rcases hr0 with h4 | ⟨b,arr,inf,p0,p1,p2,p3,p4,p5,p6,p7,p8⟩
   ·exact .inl h4
   ·refine .inr ⟨b,arr,inf,p0,p1,p2,p3,p4,p5,p6,fun j hj => ?_,p8⟩
    have:=p7 j hj;revert this;rw [mZ];generalize arr.getD j undef=u;intro h;cases h;exact .v _
 ·rcases cls i _ hm with q | ⟨rfl,q⟩
  ·obtain ⟨b,arr,p0,p1,p2,p3,p4⟩:=hM.box _ _ _ q
   exact ⟨b,arr,by rw [(old i _ q).2.2.1];exact p0,by rw [pF hg b (hM.lt i _ b q rfl p0)];exact p1,p2,fun j hj=>(p3 j hj).mono hL,p4⟩
  ·cases q
 ·rcases cls i _ hm with q | ⟨rfl,q⟩
  ·obtain ⟨b,arr,p0,p1,p2,p3⟩:=hM.mp _ _ _ q
   refine ⟨b,arr,by rw [(old i _ q).2.2.1];exact p0,by rw [pF hg b (hM.lt i _ b q rfl p0)];exact p1,p2,fun j hj => ?_⟩
   obtain ⟨en,r1,r2,r3,r4⟩:=p3 j hj;exact ⟨en,r1,r2,r3,r4.mono hL.F hL.fz⟩
  ·cases q
 ·rcases cls i _ q1 with c1 | ⟨rfl,rfl⟩ <;> rcases cls i' _ q2 with c2 | ⟨rfl,rfl⟩
  ·rw [(old i _ c1).2.2.1] at e1
   rw [(old i' _ c2).2.2.1] at e2
   exact hM.inj _ _ _ _ _ c1 l1 c2 l2 e1 e2
  ·rw [(old i _ c1).2.2.1] at e1
   rw [new.1] at e2
   have:=hM.lt _ _ _ c1 l1 e1;have:=h3 b e2;omega
  ·rw [new.1] at e1
   rw [(old i' _ c2).2.2.1] at e2
   have:=hM.lt _ _ _ c2 l2 e2;have:=h3 b e1;omega
  ·rfl
 ·rcases cls i _ hm with c1 | ⟨rfl,rfl⟩
  ·rw [(old i _ c1).2.2.1] at hb
   exact hM.nF _ _ _ c1 hl hb
  ·rw [new.1] at hb
   intro hF;have:=hM.Fs b hF;have:=h3 b hb;omega
 ·rcases cls i _ hm with c1 | ⟨rfl,rfl⟩
  ·rw [(old i _ c1).2.2.1] at hb
   exact kQ8 (hM.lt _ _ _ c1 hl hb) hg.size
  ·rw [new.1] at hb
   exact h1.lt 0 _ b rfl rfl hb
 ·cases h2 with
  | own _ _ q0 qa q =>
   refine .own _ _ q0 ⟨mO x.1,by rw [aAg (dM _),aZd];rfl⟩ fun ty n cs hm => ?_
   rw [aAg (dM _),aZd] at hm
   rw [new.1,new.2];exact q ty n cs hm

theorem qC:∀ {m m':Mem},nmM m=true→nmM m'=true→nmM (m++m')=true
 | [],_,_,h=>h
 | none::r,m',h,h'=>by
  have:nmM (r++m')=true:=qC (m:=r) h h';exact this
 | some x::r,m',h,h'=>by
  cases x with
  | row ty n cs =>
   simp only [nmM,kQ7] at h
   show (kC cs && nmM (r++m'))=true;rw [h.1,qC h.2 h'];rfl
  | box ty l =>
   simp only [nmM,kQ7] at h
   show (nmL l && nmM (r++m'))=true;rw [h.1,qC h.2 h'];rfl
  | mp=>exact qC (m:=r) h h'
  | pk=>exact qC (m:=r) h h'
  | dead=>exact qC (m:=r) h h'
theorem kV:∀ {m m':Mem},fZ m=true→fZ m'=true→fZ (m++m')=true
 | [],_,_,h=>h
 | none::r,m',h,h'=>kV (m:=r) h h'
 | some x::r,m',h,h'=>by
  cases x with
  | mp=>simp [fZ] at h
  | pk=>simp [fZ] at h
  | row=>exact kV (m:=r) h h'
  | box=>exact kV (m:=r) h h'
  | dead=>exact kV (m:=r) h h'

theorem bIv{M':Mem}{W W':World}{C1:Cx}{row:Option Nat}(hn:zS M')(hq:nmM M'=true)(hF:∀ b,C.F b→b<w.heap.size)(h1:aR P C1 M' W)(h2:Fr C M w C1 M' W)(hg:W.grownBy W' row)
  (hr:∀ r,row=some r→w.heap.size≤r∧∃ o:Obj,W.heap[r]? = some o∧o.isCells=false):∃ C',C'.ι=C1.ι∧C'.κ=C1.κ∧aR P C' M' W'∧Fr C M w C' M' W':=by
 let C':Cx:=⟨C1.ι,C1.κ,fun b=>C1.F b∧(b<w.heap.size∨mF W b),[]⟩
 have hM:aR P C' M' W:=by
  refine ⟨fun i ty n cs hm => ?_,fun i ty cs hm => ?_,fun i es cl hm=>absurd hm (hn.1 _ _ _),h1.inj,fun i o b ho hl hb hf=>h1.nF i o b ho hl hb hf.1,fun b hb=>h1.Fs b hb.1,h1.lt⟩
  ·rcases h1.row _ _ _ _ hm with h4 | ⟨b,arr,inf,q0,q1,q2,q3,q4,q5,q6,q7,q8⟩
   ·exact .inl h4
   ·exact .inr ⟨b,arr,inf,q0,q1,q2,q3,q4,q5,q6,fun j hj=>(q7 j hj).shrink (fun b hb hs=>⟨hb,.inr hs⟩) (qD ((aDs hq).1 _ _ _ _ hm) j hj),q8⟩
  ·obtain ⟨b,arr,q0,q1,q2,q3,q4⟩:=h1.box _ _ _ hm
   exact ⟨b,arr,q0,q1,q2,fun j hj=>(q3 j hj).shrink (fun b hb hs=>⟨hb,.inr hs⟩) (vE ((aDs hq).2 _ _ _ hm) j hj),q4⟩
 have f:Fr C M w C' M' W:=⟨h2.os,h2.tape,h2.out,h2.size,h2.keep,h2.ids,h2.row,h2.liv,h2.new,fun b hb=>⟨h2.F1 b hb,.inl (hF b hb)⟩,fun b hb=>h2.F2 b hb.1⟩
 have hS:∀ b,C'.F b→b<w.heap.size∨mF W b:=fun b hb=>hb.2
 have hsame:∀ b,b<W.heap.size→(b<w.heap.size∨mF W b)→W'.heap[b]? = W.heap[b]? := fun b hb hd=>hg.block b hb (fun e=>by
  obtain ⟨q1,o,q2,q3⟩:=hr b e.symm
  rcases hd with hd | hd
  ·omega
  ·exact jQ q2 q3 hd)
 have hFz:∀ b,C'.F b→W'.heap[b]? = W.heap[b]? := fun b hb=>hsame b (hM.Fs b hb) (hS b hb)
 have hL:Le C' C' M' M' W W':=⟨fun _ o h=>⟨o,h⟩,fun _ _ _ _ _ cs h=>⟨cs,h⟩,fun _ o h o' h' hl=>by rw [h] at h';cases h';exact ⟨hl,rfl,rfl⟩,fun _ h=>h,hFz⟩
 refine ⟨C',rfl,rfl,⟨fun i ty n cs hm => ?_,fun i ty cs hm => ?_,fun i es cl hm=>absurd hm (hn.1 _ _ _),hM.inj,hM.nF,fun b hb=>kQ8 (hM.Fs b hb) hg.size,fun i o b ho hl hb=>kQ8 (hM.lt i o b ho hl hb) hg.size⟩,
  ⟨hg.os.trans f.os,hg.tape.trans f.tape,hg.output.trans f.out,fT f.size hg.size,fun b hb hno=>(hsame b (kQ8 hb f.size) (.inl hb)).trans (f.keep b hb hno),f.ids,f.row,f.liv,f.new,f.F1,f.F2⟩⟩
 ·rcases hM.row _ _ _ _ hm with h4 | ⟨b,arr,inf,q0,q1,q2,q3,q4,q5,q6,q7,q8⟩
  ·exact .inl h4
  ·exact .inr ⟨b,arr,inf,q0,(hsame b (mM.1 q1).1 (.inr (fN q1))).trans q1,q2,q3,q4,q5,q6,fun j hj=>(q7 j hj).mono hL.F hL.fz,q8⟩
 ·obtain ⟨b,arr,q0,q1,q2,q3,q4⟩:=hM.box _ _ _ hm
  exact ⟨b,arr,q0,(hsame b (mM.1 q1).1 (.inr (fN q1))).trans q1,q2,fun j hj=>(q3 j hj).mono hL,q4⟩
theorem aSa{C1 C':Cx}{M':Mem}{W W':World}{i:Nat}{u:Value}(h:Rep C1 M' W (.own i) u)(e1:C'.ι=C1.ι)(e2:C'.κ=C1.κ):Rep C' M' W' (.own i) u:=by
 cases h with
 | own _ _ q0 qa q=>exact .own _ _ q0 qa fun ty n cs hm=>by rw [e1,e2];exact q ty n cs hm

def bSn(P:Program)(g:AV)(gf N:Nat)(xs:Lqq):Prop:=∀ (C:Cx) (M:Mem) (w:World) (u:Value),Rep C M w g u→(∀ b,C.F b→b<w.heap.size) →
 ∃ lb,u = .func (.func gf) #[] lb∧aHm Fence.wide 2 P gf lb (fun x:List Int × Value => #[x.2]) (bIt P) (KpG C.F) (fun ys=>ys.map (·.1)=xs) (fun ys=>ys.map (·.1) <+: xs) N w

def rfO(st:St)(p1 d:Nat)(l:List Int):St:=⟨put (put st.t (some p1) (.own st.m.length)) (some d) (.own st.m.length),st.m++[some (mO l)]⟩

section
variable {k kb gi gf p1 d id ty:Nat} {pos:String} {body:Code} {g:AV} {N:Nat} {xs:Lqq}
theorem aHl(st0:St)(S:Lqq→St)(E ER:Lqq→List Int→St)(T:List AV)(MR:Mem)(p:Lqq→List Int→Bool){cc:Code}(hcc:cc = .rangeFunc (.tmp gi) #[p1] (.region id #[{ dst:=some d,op := .assign (.tmp p1),type:=ty,pos:=pos,after := #[],guard:=none }] false) body)
  (hT0:st0.t=T) (hT:∀ pre,(S pre).t=T) (hg:T[gi]? = some g) (hit:bSn P g gf N xs) (eg:∀ args w,(callFunc gf args).run P w = .ok (.enter gf args) w)
  (hmp:∀ pre,fZ (S pre).m=true) (hq:∀ pre,nmM (S pre).m=true) (hmE:∀ pre l,fZ (E pre l).m=true) (hmER:∀ pre l,fZ (ER pre l).m=true) (hmR:fZ MR=true) (hqR:nmM MR=true) (hlen:∀ pre,(S pre).m.length<kb) (hnrf:nrf body=true)
  (hp:∀ (x:AV),(put T (some p1) x)[p1]? = some x) {kk:Nat} {g0 g1 gR:Gh} (hkk:st0.m.length≤kk) (h0m:fZ st0.m=true) (hg0:gh kk g0 st0=some (S [])) (hgh:∀ pre l,gh kk g1 (E pre l)=some ⟨(E pre l).t,(S (pre++[l])).m⟩) (hgR:∀ pre l,p pre l=true→gh kk gR (ER pre l)=some ⟨(ER pre l).t,MR⟩)
  (hbody:∀ pre l,pre.length<N→l.length≤1000→(p pre l=false→aC P kb body (rfO (S pre) p1 d l) .normal (E pre l))∧(p pre l=true→aC P kb body (rfO (S pre) p1 d l) .ret (ER pre l))) :
  ((∀ pre l,pre++[l] <+: xs→p pre l=false)→aC P k cc st0 .normal (S xs)) ∧
  ((∃ pre l,pre++[l] <+: xs∧p pre l=true)→aC P k cc st0 .ret ⟨T,MR⟩):=by
 have hmp':∀ pre,zS (S pre).m:=fun pre=>eG (hmp pre)
 have hmR':zS MR:=eG hmR;have main:∀ (Qf:Ex→St→Prop),((∀ pre l,pre++[l] <+: xs→p pre l=false)→Qf .normal (S xs))→((∃ pre l,pre++[l] <+: xs∧p pre l=true)→Qf .ret ⟨T,MR⟩) →
   ∀ (C0:Cx) (M0:Mem) (w0:World) (a:Act) (w:World),M0.length≤k→Sim P C0 M0 w0 st0 a w→∀ (ro:Option Nat),lO ro cc→∀ (n:Nat),cc.wpIn (Fen ro) n P (fun e' a' w'=>∃ e st',Qf e st'∧e'=e.toExit∧Sim P C0 M0 w0 st' a' w') a w:=by
  intro Qf hQ1 hQ2 C0 M0 w0 a w hk hs ro hro n;subst hcc;have hro':ro=none:=hro.resolve_right (by simp [nrf])
  subst hro';refine aDt (n:=3) ?_;obtain ⟨C,hSl,hM,hF,hD⟩:=hs;have hini:bAx P C st0.m w (S []).m w:=by
   obtain ⟨C1,_,h1,h2,_⟩:=eQ hkk hg0 (show Sim P (C.with []) st0.m w st0 { a with defers:=[] } w from ⟨C,hSl,hM,(Fr.refl _ _ _).based [],.nil rfl (eG h0m).2⟩)
   exact ⟨C1,h1,h2.unbased⟩
  rw [hT0] at hSl
  obtain ⟨lb,hu,hseq⟩:=hit C st0.m w _ (hSl.at hg) hM.Fs
  have actOf:∀ x:List Int × Value,Act:=fun x=>({ tmps:=a.tmps.setIfInBounds p1 x.2,defers:=[] }:Act).put (some d) (({ tmps:=a.tmps.setIfInBounds p1 x.2,defers:=[] }:Act).eval (.tmp p1))
  refine tU (F:=Fen none) (n:=3) rfl (by omega) (gf:=gf) (lb:=lb) hu trivial eg hseq (fun h k=>h.trans k)
   (fun W l o o' hl h1 h2 h3=>⟨by simp,fun b hb=>(grownBy_putObj' W l o').block b (kQ8 (hM.Fs b hb) (fT hl (Nat.le_of_lt (mM.1 h1).1))) (fun e=>by cases e;have:=hM.Fs _ hb;omega)⟩)
   (Below.refl _ _) (fun _=>rfl)
   (fun pre W=>bAx P C st0.m w (S (pre.map (·.1))).m W∧∀ q l,q++[l] <+: pre.map (·.1)→p q l=false)
   (fun c pre W=>c = .ret∧bAx P C st0.m w MR W∧∃ q l,q++[l]=pre.map (·.1)∧p q l=true)
   (fun pre X Y row hs hg hr=>⟨hs.1.own (hmp' _) (hq _) hM.Fs hg hr,hs.2⟩) (fun c pre X Y row hs hg hr=>⟨hs.1,hs.2.1.own hmR' hqR hM.Fs hg hr,hs.2.2⟩)
   ⟨hini,fun q l h=>by simp at h⟩
   (fun pre x V a' W=>a'=({ tmps:=a.tmps.setIfInBounds p1 x.2,defers:=[] }:Act).put (some d) (({ tmps:=a.tmps.setIfInBounds p1 x.2,defers:=[] }:Act).eval (.tmp p1)) ∧
    (∃ C2,aR P C2 ((S (pre.map (·.1))).m++[some (mO x.1)]) W∧Fr C st0.m w C2 ((S (pre.map (·.1))).m++[some (mO x.1)]) W∧Rep C2 ((S (pre.map (·.1))).m++[some (mO x.1)]) W (.own (S (pre.map (·.1))).m.length) x.2) ∧
    KpG C.F V W∧x.1.length≤1000∧∀ q l,q++[l] <+: pre.map (·.1)→p q l=false)
   (fun pre x V a' s X Y row hs hg hr=>by
    obtain ⟨e1,⟨C2,q1,q2,q3⟩,e3,e4,e5⟩:=hs;have hnr:nmM [some (mO x.1)]=true:=by
     show (kC (x.1.map aB) && nmM [])=true;rw [aDr aB (fun _=>rfl)];rfl
    obtain ⟨C',i1,i2,i3,i4⟩:=bIv (eG (kV (hmp _) (by rfl))) (qC (hq _) hnr) hM.Fs q1 q2 hg hr
    refine ⟨e1,⟨C',i3,i4,aSa q3 i1 i2⟩,⟨fT e3.size hg.size,fun b hb => ?_⟩,e4,e5⟩
    refine (hg.block b (kQ8 (hM.Fs b hb) q2.size) (fun e => ?_)).trans (e3.same b hb)
    have:=(hr b e.symm).1;have:=hM.Fs b hb;omega)
   ?assign ?body ?done ?stop
  case assign =>
   intro l pre x V W K hI hg' hR hK;obtain ⟨⟨C',hM',hF'⟩,hpre⟩:=hI;obtain ⟨C2,j1,j2,j3⟩:=bIu hM' hg' hR;have hz:(#[p1].zip #[x.2]).foldl (fun t (y:Nat × Value)=>t.setIfInBounds y.1 y.2) a.tmps=a.tmps.setIfInBounds p1 x.2:=by simp
   rw [hz];refine wpIn_region_lit (wpListIn_plain rfl fun K' hK' => ?_)
   unfold Oper.wpIn;refine ⟨fun f _=>trivial,?_⟩
   rw [Oper.semAt_plain _ _ _ (by intro c hc';cases hc')]
   simp only [execOp,Sem.run_pure];exact hK' _ _ (wpListIn_nil (hK _ _ (KeepsFrom.refl _ _) ⟨rfl,⟨C2,j1,hF'.trans j2,j3⟩,⟨hg'.size,fun b hb=>pF hg' b (kQ8 (hM.Fs b hb) hF'.size)⟩,hR.1,hpre⟩))
  case body =>
   rintro l pre x a' V W hl _ ⟨rfl,⟨C2,hM2,hF2,hr2⟩,hK2,hxl,hpre⟩ hlt;have hpl:(pre.map (·.1)).length<N:=by simpa using hlt
   have hSW:eI C2 ((S (pre.map (·.1))).m++[some (mO x.1)]) W T a.tmps:=hSl.le (hM.le hF2)
   have s1:eI C2 ((S (pre.map (·.1))).m++[some (mO x.1)]) W (put T (some p1) (.own (S (pre.map (·.1))).m.length)) (({ tmps:=a.tmps,defers:=[] }:Act).put (some p1) x.2).tmps :=
    eI.put (a:={ tmps:=a.tmps,defers:=[] }) hSW hr2
   have s2:eI C2 ((S (pre.map (·.1))).m++[some (mO x.1)]) W (put (put T (some p1) (.own (S (pre.map (·.1))).m.length)) (some d) (.own (S (pre.map (·.1))).m.length)) (({ tmps:=a.tmps.setIfInBounds p1 x.2,defers:=[] }:Act).put (some d) (({ tmps:=a.tmps.setIfInBounds p1 x.2,defers:=[] }:Act).eval (.tmp p1))).tmps :=
    eI.put s1 (s1.at (hp _))
   have hnr:fZ ((S (pre.map (·.1))).m++[some (mO x.1)])=true:=kV (hmp _) (by rfl)
   have hsim:Sim P (C2.with []) ((S (pre.map (·.1))).m++[some (mO x.1)]) W (rfO (S (pre.map (·.1))) p1 d x.1) (({ tmps:=a.tmps.setIfInBounds p1 x.2,defers:=[] }:Act).put (some d) (({ tmps:=a.tmps.setIfInBounds p1 x.2,defers:=[] }:Act).eval (.tmp p1))) W:=by
    refine ⟨C2,?_,hM2,(Fr.refl _ _ _).based [],.nil rfl (eG hnr).2⟩;unfold rfO;rw [hT];exact s2
   have hkl:((S (pre.map (·.1))).m++[some (mO x.1)]).length≤kb:=by
    rw [kT];exact hlen _
   have keepO:∀ {M2:Mem} {W2:World} {C3:Cx},Fr C2 ((S (pre.map (·.1))).m++[some (mO x.1)]) W C3 M2 W2→KeepsFrom w.heap.size W W2∧KpG C.F V W2:=fun f3 =>
    ⟨⟨f3.size,fun b o _ hb ho=>(f3.keep b (mM.1 hb).1 (aJs hM2 (eG hnr) hb ho)).trans hb⟩,
     hK2.trans ⟨f3.size,fun b hb=>f3.keep b (kQ8 (hM.Fs b hb) hF2.size) (fun id o ho hl he=>hM2.nF id o b ho hl he (hF2.F1 b hb))⟩⟩
   have hmapp:(pre++[x]).map (·.1)=pre.map (·.1)++[x.1]:=by simp
   cases hpx:p (pre.map (·.1)) x.1 with
   | false =>
    refine wpIn_mono ((hbody _ x.1 hpl hxl).1 hpx (C2.with []) _ W _ W hkl hsim (some l) (.inr hnrf) 1) ?_
    rintro e a2 W2 ⟨rfl,C3,hS3,hM3,hF3,_⟩;have hF3:=hF3.unbased;obtain ⟨k1,k2⟩:=keepO hF3;have hsim3:Sim P (C.with []) st0.m w (E (pre.map (·.1)) x.1) { a2 with defers:=[] } W2 :=
     ⟨C3,hS3,hM3,(hF2.trans hF3).based [],.nil rfl (eG (hmE _ _)).2⟩
    obtain ⟨C4,_,hM4,hF4,_⟩:=eQ hkk (hgh _ _) hsim3;refine ⟨k1,k2,⟨C4,?_,?_⟩,fun q l h => ?_⟩
    ·rw [hmapp];exact hM4
    ·rw [hmapp];exact hF4.unbased
    ·rw [hmapp] at h
     rcases List.prefix_concat_iff.1 h with h | h
     ·obtain ⟨e1,e2⟩:=List.append_inj' h rfl
      cases e2;rw [e1];exact hpx
     ·exact hpre q l h
   | true =>
    have hc:=(hbody _ x.1 hpl hxl).2 hpx;refine wpIn_mono (hc (C2.with []) _ W _ W hkl hsim (some l) (.inr hnrf) 1) ?_
    rintro e a2 W2 ⟨rfl,C3,hS3,hM3,hF3,_⟩;have hF3:=hF3.unbased;obtain ⟨k1,k2⟩:=keepO hF3;have hsim3:Sim P (C.with []) st0.m w (ER (pre.map (·.1)) x.1) { a2 with defers:=[] } W2 :=
     ⟨C3,hS3,hM3,(hF2.trans hF3).based [],.nil rfl (eG (hmER _ _)).2⟩
    obtain ⟨C4,_,hM4,hF4,_⟩:=eQ hkk (hgR _ _ hpx) hsim3;exact ⟨k1,rfl,⟨C4,hM4,hF4.unbased⟩,_,_,hmapp.symm,hpx⟩
  case done =>
   intro D ys W hD' hSx hI hDm;obtain ⟨⟨C1,h1,h2⟩,hpre⟩:=hI;rw [hSx] at h1 h2 hpre
   refine ⟨.normal,S xs,hQ1 hpre,rfl,?_⟩;have hnm:zS (S xs).m:=hmp' xs;obtain ⟨C',hM',f,hSo⟩:=vF hnm (hq xs) hM.Fs h1 h2;refine ⟨C',by rw [hT];exact hSl.le (hM.le f),hM',hF.trans f,?_⟩
   obtain ⟨⟨l,e1,e2,e3⟩,hR⟩:=hD.fr hM (fun i to ti sz L h=>by have:=hnm.2 _ _ h;cases this) f
   obtain ⟨⟨l',e1',_,e3'⟩,_⟩:=hD;have hll:l=l':=by
    have:=e1.symm.trans e1';exact (List.map_inj_right (fun x y h=>by simpa [mark] using h)).1 this
   refine ⟨⟨D::l,by rw [e1];rfl,List.nodup_cons.2 ⟨fun hin => ?_,e2⟩,fun D' hD2 => ?_⟩,hR⟩
   ·rw [hll] at hin
    have:=(mM.1 (e3' D hin).1).1;omega
   ·rcases jH.1 hD2 with rfl | hin
    ·refine ⟨hDm,fT hF.size hD',fun hf => ?_⟩
     rcases hSo _ hf with h | h
     ·omega
     ·exact jQ hDm rfl h
    ·exact e3 D' hin
  case stop =>
   rintro D c pre W hD' hSp ⟨rfl,⟨C1,h1,h2⟩,q,l0,hql,hpq⟩ hDm;refine wpIn_ret ?_;refine ⟨.ret,⟨T,MR⟩,hQ2 ⟨q,l0,by rw [hql];exact hSp,hpq⟩,rfl,?_⟩
   obtain ⟨C',hM',f,hSo⟩:=vF hmR' hqR hM.Fs h1 h2;refine ⟨C',hSl.le (hM.le f),hM',hF.trans f,?_⟩;obtain ⟨⟨l,e1,e2,e3⟩,hR⟩:=hD.fr hM (fun i to ti sz L h=>by have:=hmR'.2 _ _ h;cases this) f
   obtain ⟨⟨l',e1',_,e3'⟩,_⟩:=hD;have hll:l=l':=by
    have:=e1.symm.trans e1';exact (List.map_inj_right (fun x y h=>by simpa [mark] using h)).1 this
   refine ⟨⟨D::l,by rw [e1];rfl,List.nodup_cons.2 ⟨fun hin => ?_,e2⟩,fun D' hD2 => ?_⟩,hR⟩
   ·rw [hll] at hin
    have:=(mM.1 (e3' D hin).1).1;omega
   ·rcases jH.1 hD2 with rfl | hin
    ·refine ⟨hDm,fT hF.size hD',fun hf => ?_⟩
     rcases hSo _ hf with h | h
     ·omega
     ·exact jQ hDm rfl h
    ·exact e3 D' hin
 refine ⟨fun hall => ?_,fun hex => ?_⟩
 ·intro C0 M0 w0 a w hk hs ro hro n
  refine wpIn_mono (main (fun e st'=>e = .normal∧st'=S xs) (fun _=>⟨rfl,rfl⟩) (fun ⟨q,l,h1,h2⟩=>by rw [hall q l h1] at h2;cases h2) C0 M0 w0 a w hk hs ro hro n) ?_
  rintro e' a' w' ⟨e,st',⟨rfl,rfl⟩,h1,h2⟩;exact ⟨h1,h2⟩
 ·intro C0 M0 w0 a w hk hs ro hro n
  refine wpIn_mono (main (fun e st'=>e = .ret∧st'=⟨T,MR⟩) (fun hall=>by obtain ⟨q,l,h1,h2⟩:=hex;rw [hall q l h1] at h2;cases h2) (fun _=>⟨rfl,rfl⟩) C0 M0 w0 a w hk hs ro hro n) ?_
  rintro e' a' w' ⟨e,st',⟨rfl,rfl⟩,h1,h2⟩;exact ⟨h1,h2⟩
end
end KV
end Go.Proofs
end
section
namespace Go.Proofs
open Go.RowKit
namespace KV
variable {P:Program} {T:TT} {E:Env} {C C0:Cx} {M M0:Mem} {w w0:World}
def cBo(P:Program)(ops:Array Oper)(o:Oper)(st st':St):Prop:=∀ (C0:Cx) (M0:Mem) (w0:World) (a:Act) (w:World),Sim P C0 M0 w0 st a w→∀ (ro:Option Nat) (n:Nat) (K:Act→World→Prop) (Q:Exit→Act→World→Prop),
 (∀ a' w',(∃ v,a'=a.put o.dst v)→Sim P C0 M0 w0 st' a' w'→K a' w')→if Region.wanted o (yielded ops a.tmps) then o.wpIn (Fen ro) n P a w K Q else (∀ f,o.about P w a.eval=some f→(Fen ro).fn f)∧K (a.put o.dst undef) w
theorem bAw(hT:∀ t i,T t=some i→cJ P t=some i)(hE:mE P E){ops:List Oper}{o:Oper}{id:Nat}{st st':St}{s s':AS}(h:pN P T E ops o id st s=some (st',s'))(g:bB s'):cBo P ops.toArray o st st':=by
 intro C0 M0 w0 a w hsim ro n K Q hK;obtain ⟨C,hS,hM,hF,hD⟩:=hsim;unfold pN at h
 obtain ⟨go,s1,h1,k1⟩:=aD h;cases go with
 | true =>
  obtain ⟨vs,s2,h2,k2⟩:=aD k1;obtain ⟨e2,rfl⟩:=aG h2;obtain ⟨⟨x,L⟩,s3,h3,k3⟩:=aD k2;obtain ⟨rfl,rfl⟩:=aJ k3;have gd:=pM.good h3 g;rw [nM hS h1 gd,if_pos rfl];refine ⟨fun f _=>trivial,?_⟩
  rw [Oper.semAt_eq _ _ _ (zH h3)]
  rcases sX h3 with ⟨q,_,_,h4⟩ | ⟨h4,hno⟩
  ·obtain ⟨_,hup⟩:=zI hT hE hS hM hF hD (rJ hS _ _ e2) h4 g
   revert hup;generalize (execOp a.eval o).run P w=r;intro hup;cases r with
   | halt x w'=>exact hup.elim
   | ok nx w' =>
    cases nx with
    | value u=>exact hK _ _ ⟨_,rfl⟩ hup
    | skip=>exact hK _ _ ⟨_,rfl⟩ (hup _)
    | enter f us =>
     obtain ⟨rfl,hc⟩:=hup;refine ⟨fun h=>by simp [Fen,Fence.wide] at h,(sW (hc (n-1))).mono ?_⟩
     rintro e w'' ⟨u,rfl,hs⟩;exact hK _ _ ⟨_,rfl⟩ hs
    | _=>exact hup.elim
  ·obtain ⟨_,hup⟩:=aCn hT hE hM (rJ hS _ _ e2) h4 g
   have hk:kR st.m (upds st.m L):=rI hno;revert hup;generalize (execOp a.eval o).run P w=r;intro hup;cases r with
   | halt x w'=>exact hup.elim
   | ok nx w' =>
    cases nx with
    | value u =>
     obtain ⟨C',f,m,r⟩:=hup;exact hK _ _ ⟨_,rfl⟩ (nN hS hM hF hD f hk m r)
    | skip =>
     obtain ⟨rfl,C',f,m⟩:=hup;exact hK _ _ ⟨_,rfl⟩ (nN hS hM hF hD f hk m (.any _))
    | enter f us =>
     obtain ⟨rfl,hc⟩:=hup;refine ⟨fun h=>by simp [Fen,Fence.wide] at h,(sW (hc (n-1))).mono ?_⟩
     rintro e w'' ⟨u,rfl,C',f,m,r⟩;exact hK _ _ ⟨_,rfl⟩ (nN hS hM hF hD f hk m r)
    | _=>exact hup.elim
 | false =>
  obtain ⟨rfl,rfl⟩:=aJ k1;rw [nM hS h1 g];simp only [Bool.false_eq_true,if_false];exact ⟨fun f _=>trivial,hK _ _ ⟨_,rfl⟩ (nN hS hM hF hD (Fr.refl ..) .refl hM (.tup [] #[] rfl (fun i h=>by simp at h)))⟩
theorem pE{a:Act}{d:Option Nat}{v:Value}{i:Nat}(h:d≠some i):(a.put d v).tmps.getD i undef=a.tmps.getD i undef:=by
 cases d with
 | none=>rfl
 | some j =>
  have hne:j≠i:=fun e=>h (by rw [e])
  show (a.tmps.setIfInBounds j v).getD i undef=_;simp [kQ2,Array.getElem?_setIfInBounds_ne hne]
theorem aHk(hT:∀ t i,T t=some i→cJ P t=some i)(hE:mE P E){ops:List Oper}:∀ (l:List Oper) (k:Nat) {st st':St} {s s':AS},(∀ j,l[j]? = ops[k+j]?)→aYt P T E ops l st s=some (st',s')→bB s' →
  ∀ (C0:Cx) (M0:Mem) (w0:World) (a:Act) (w:World),Sim P C0 M0 w0 st a w→∀ (ro:Option Nat) (n:Nat) (Q:Exit→Act→World→Prop),(∀ a' w',((∀ i,(∀ o∈l,o.dst≠some i)→a'.tmps.getD i undef=a.tmps.getD i undef)∧a'.defers=a.defers)→Sim P C0 M0 w0 st' a' w'→Q .normal a' w')→wpOpsIn (Fen ro) n P ops.toArray Q ((List.range l.length).map (k + ·)) a w
 | [],k,st,st',s,s',_,h,g,C0,M0,w0,a,w,hs,ro,n,Q,hQ=>by
  obtain ⟨rfl,rfl⟩:=aJ h;exact hQ _ _ ⟨fun _ _=>rfl,rfl⟩ hs
 | o::l,k,st,st',s,s',hl,h,g,C0,M0,w0,a,w,hs,ro,n,Q,hQ=>by
  obtain ⟨st1,s1,h1,k1⟩:=aD h;have h0:ops[k]? = some o:=by simpa using (hl 0).symm
  have ih:=fun a1 w1=>aHk hT hE l (k+1) (fun j=>by have:=hl (j+1);simpa [Nat.add_assoc,Nat.add_comm 1 j] using this) k1 g C0 M0 w0 a1 w1
  have hst:=bAw hT hE h1 (sY.good k1 g) C0 M0 w0 a w hs ro n (wpOpsIn (Fen ro) n P ops.toArray Q ((List.range l.length).map (k+1 + ·))) Q (fun a1 w1 hv hs1=>ih a1 w1 hs1 ro n Q fun a' w' hk hs'=>hQ a' w' ⟨fun i hi=>by
   obtain ⟨v,rfl⟩:=hv;rw [hk.1 i fun o' ho'=>hi o' (kQ6 _ ho'),pE (hi o (gY ..))],by
   obtain ⟨v,rfl⟩:=hv;rw [hk.2];cases o.dst <;> rfl⟩ hs')
  rw [qZ,List.range_succ_eq_map,gZ,tS];have hm:(List.range l.length).map ((k + ·) ∘ Nat.succ)=(List.range l.length).map (k+1 + ·):=by
   apply aAj;intro x _;simp only [Function.comp];omega
  rw [hm,Nat.add_zero,wpOpsIn_cons];unfold wpOpIn;simp only [List.getElem?_toArray,h0];exact hst
def wrR(c:Code)(i:Nat):Bool:=match c with
 | .region _ ops _=>ops.toList.any fun o=>match o.dst with
  | some j=>Nat.beq j i
  | none=>false
 | _=>true
def dU(P:Program)(k:Nat)(c:Code)(st:St)(e:Ex)(st':St):Prop:=∀ (C0:Cx) (M0:Mem) (w0:World) (a:Act) (w:World),M0.length≤k→Sim P C0 M0 w0 st a w→∀ (ro:Option Nat) (n:Nat),c.wpIn (Fen ro) n P (fun e' a' w'=>e'=e.toExit∧Sim P C0 M0 w0 st' a' w'∧(∀ i,wrR c i=false→a'.tmps.getD i undef=a.tmps.getD i undef)∧a'.defers=a.defers) a w
noncomputable def bIq(c:Code)(st:St):Ask (Ex × St):=match c with
 | .region _ ops false=>do
  let st' ← aYt Tp tT EO ops.toList ops.toList st
  pure (.normal,st')
 | _=>fail
theorem dU.fin{k:Nat}{c:Code}{st st':St}{e:Ex}{g:Gh}{o:List OI}{l:List Prop}(h:aAl k g (bIq c st (asg o))=some (e,st',l,[]))(gd:bB (out l)):dU Tp k c st e st':=by
 unfold aAl at h
 split at h
 ·rename_i e1 st1 s hr
  split at h
  ·rename_i st2 hg
   simp only [Option.some.injEq,Prod.mk.injEq] at h
   obtain ⟨rfl,rfl,rfl,hs⟩:=h;unfold bIq at hr
   split at hr
   ·rename_i id ops
    obtain ⟨st3,s1,h1,k1⟩:=aD hr;obtain ⟨he,rfl⟩:=aJ k1;cases he;intro C0 M0 w0 a w hk hsm ro n;refine wpIn_region ?_;have:=aHk aHf aHe ops.toList 0 (fun j=>by simp) h1 (fun p hp=>gd p hp) C0 M0 w0 a w hsm ro n (fun e' a' w'=>e'=Ex.normal.toExit∧Sim Tp C0 M0 w0 st2 a' w'∧(∀ i,wrR (.region id ops false) i=false→a'.tmps.getD i undef=a.tmps.getD i undef)∧a'.defers=a.defers) (fun a' w' hkp h'=>⟨rfl,eQ hk hg h',fun i hi=>hkp.1 i fun o ho e=>by
     unfold wrR at hi
     have:=List.any_eq_false.1 hi o ho;rw [e] at this
     exact this (Nat.beq_refl i),hkp.2⟩)
    simpa using this
   ·cases hr
  ·cases h
 ·cases h
theorem dU.fi{k:Nat}{c:Code}{st st':St}{e:Ex}(g:Gh)(o:List OI){l:List Prop}(gd:bB (out l))(h:aAl k g (bIq c st (asg o))=some (e,st',l,[]):=by kernel_rfl):dU Tp k c st e st':=dU.fin h gd
end KV
end Go.Proofs
end
namespace Go.Proofs
namespace KV
section
section
variable {l:Lqq} {j i:Nat} {xs:List Int} {v:Int}
end
end
section

theorem aH.count{P:Program}{k:Nat}{b:Code}{e:Ex}{R:St}(N:Nat)(S:Nat→St)(hs:∀ i,i<N→aC P k b (S i) .normal (S (i+1)))(hx:aC P k b (S N) e R)(he:e ≠ .normal):aH P k b (S 0) e R:=by
 have key:∀ d i,i+d=N→aH P k b (S i) e R:=by
  intro d
  induction d with
  | zero =>
   intro i hi;obtain rfl:i=N:=by omega
   exact .exit hx he
  | succ d ih=>intro i hi;exact .step (hs i (by omega)) (ih (i+1) (by omega))
 exact key N 0 (by omega)

theorem aH.until{P:Program}{k:Nat}{b:Code}{e:Ex}{R:St}(N:Nat)(S:Nat→St)(n:Nat)(hn:n≤N)(hs:∀ i,i<n→aC P k b (S i) .normal (S (i+1)))(hx:aC P k b (S n) e R)(he:e ≠ .normal):aH P k b (S 0) e R:=aH.count n S hs hx he

def eT(l:List Int):List (Value × PV):=l.map fun k=>(.int .i64 k,blP true)
theorem aTl(l:List Int)(k:Int):eT (l++[k])=eT l++[(.int .i64 k,blP true)]:=by unfold eT;rw [gJ];rfl
theorem oK{n:Int}(hn : -1000000≤n∧n≤1000000):aMs .i64 (.int .i64 n)=true:=by
 show (decide (IntKind.i64=IntKind.i64) && (Lit.int .i64 n).wf)=true;have:(Lit.int .i64 n).wf=true:=by
  have e1:IntKind.i64.min = -9223372036854775808:=rfl;have e2:IntKind.i64.max=9223372036854775807:=rfl;simp only [Lit.wf,e1,e2,kQ7,decide_eq_true_eq];omega
 rw [this];rfl
theorem aTm{l:List Int}(hn:l.Nodup)(hb:∀ x∈l,-1000000≤x∧x≤1000000){x:Int}(hx : -1000000≤x∧x≤1000000):cK .i64 (eT l) (.int .i64 x):=by
 refine ⟨fun e he => ?_,oK hx,?_⟩
 ·obtain ⟨y,hy,rfl⟩:=kQ9.1 he
  exact oK (hb y hy)
 ·unfold eT
  rw [tS];have:l.map ((fun e:Value × PV=>iZ e.1) ∘ fun k=>(Value.int .i64 k,blP true))=l:=by
   conv=>rhs;rw [← List.map_id l]
   exact aAj fun x _=>rfl
  rw [this];exact hn
theorem bKd{l:List Int}{x:Int}(h:x∉l):dS (eT l) (.int .i64 x)=false:=by
 unfold dS;rw [List.any_eq_false];intro e he;obtain ⟨y,hy,rfl⟩:=kQ9.1 he;intro h2;have h3:y=x:=of_decide_eq_true h2;exact h (h3 ▸ hy)
theorem bKe{l:List Int}{x:Int}(h:x∈l):dS (eT l) (.int .i64 x)=true:=by
 unfold dS;rw [List.any_eq_true];exact ⟨_,kQ9.2 ⟨x,h,rfl⟩,decide_eq_true rfl⟩

theorem bCt{l:List Int}{x:Int}(h:x∈l):fU (eT l) (.int .i64 x)=some (blP true):=by
 induction l with
 | nil=>cases h
 | cons a l ih =>
  by_cases e:a=x
  ·subst e;simp [eT,fU]
  ·have h2:x∈l:=by rcases jH.1 h with h | h;exact absurd h.symm e;exact h
   have:=ih h2;simpa [eT,fU,iZ,e] using this
def within(n lo hi:Int):Bool:=decide (lo≤n) && decide (n≤hi)
def aP(f:Lqq)(j:Nat):List Int:=f.map fun x=>x.getD j 0
theorem len6{y:List Int}(h:y.length=6):∃ a b c d e f,y=[a,b,c,d,e,f]:=by
 match y,h with
 | [a,b,c,d,e,f],_=>exact ⟨a,b,c,d,e,f,rfl⟩
theorem at2{f:Lqq}(hu:uni 2 f){i:Nat}(hi:i<f.length):∃ a b,f[i]? = some [a,b]:=by
 obtain ⟨a,b,e⟩:=len2 (hu _ (gS hi));exact ⟨a,b,by rw [kQ0 hi,e]⟩
theorem at6{f:Lqq}(hu:uni 6 f){i:Nat}(hi:i<f.length):∃ a b c d e g,f[i]? = some [a,b,c,d,e,g]:=by
 obtain ⟨a,b,c,d,e,g,h⟩:=len6 (hu _ (gS hi));exact ⟨a,b,c,d,e,g,by rw [kQ0 hi,h]⟩
end
section
variable {r0:Bool}{n dl hi lo x0 x1 x2 x3 x4 x5 x100 y100 y101:Int}{dc sk:Lqq}{l m o o' m'1 o'1:List Int}{i i' i'0 base:Nat}

noncomputable abbrev zU:Code:=sub (cd Tryz.f108) [1,1,0,1,0,0]
noncomputable abbrev aNz:Code:=sub (cd Tryz.f109) [1,1,0,1,0,0]
noncomputable abbrev aOa:Code:=sub (cd Tryz.f110) [1,1,0,1,0,0]
theorem cAv(h0:lo≤n)(er0:r0=(decide (n≤hi))):FV Tp 103 [(pI n),(pI lo),(pI hi)] base (pB r0) []:=by
 subst er0;exact FV.fi Tryz.func103 [bT,bT,bT,bT] (g4c (aAm h0) gn)
theorem cAw(h0:n<lo):FV Tp 103 [(pI n),(pI lo),(pI hi)] base (pB false) []:=by
 exact FV.fi Tryz.func103 [bF,bF,bF,bF] (g4c (qU h0) gn)
theorem bW(n lo hi:Int){base:Nat}:FV Tp 103 [.p (aB n),.p (aB lo),.p (aB hi)] base (pB (within n lo hi)) []:=by
 by_cases h:lo≤n
 ·exact cAv h (by simp [within,h])
 ·have e:within n lo hi=false:=by simp [within,h]
  rw [e];exact cAw (show n<lo by omega)
theorem bWs{k:Int}(er0:r0=(decide (k≤4))):FV Tp 112 [(pI k)] base (pB r0) []:=by
 subst er0;exact FV.fi Tryz.func112 [] gn
theorem eL(k:Int){base:Nat}:FV Tp 112 [.p (aB k)] base (pB (decide (k≤4))) []:=bWs rfl
theorem bWt(h0:(within x0 (1:Int) (999:Int))=true)(er0:r0=(within x1 (-1:Int) (360000:Int))):FV Tp 105 [(.p (.agg [(aB x0),(aB x1)]))] base (pB r0) []:=by
 subst er0;have k1:=fk 1 (bW x0 (1:Int) (999:Int)) rfl;have k2:=fk 1 (bW x1 (-1:Int) (360000:Int)) rfl;exact FV.fi Tryz.func105 [k1.o,bT,bT,bT,k2.o,bT] (gc h0 (gc k2 (g3c h0 (gc k1 gn))))
theorem bWu(h0:(within x0 (1:Int) (999:Int))=false):FV Tp 105 [(.p (.agg [(aB x0),(aB x1)]))] base (pB false) []:=by
 have k1:=fk 1 (bW x0 (1:Int) (999:Int)) rfl;exact FV.fi Tryz.func105 [k1.o,bF,bF,bF,bF] (g4c h0 (gc k1 gn))
def skB(x:List Int):Bool:=within (x.getD 0 0) 1 999 && within (x.getD 1 0) (-1) 360000
theorem bWv(x0 x1:Int){base:Nat}:FV Tp 105 [.p (.agg [aB x0,aB x1])] base (pB (skB [x0,x1])) []:=by
 cases h:within x0 1 999 with
 | true=>exact bWt h (show (within x0 1 999 && _)=_ by rw [h];rfl)
 | false=>rw [show skB [x0,x1]=false from show (within x0 1 999 && _)=_ by rw [h];rfl];exact bWu h
def nC(k:Int):Int:=if k=3∨¬ k≤4∧k≠6 then 0 else 36000
def dcB(x:List Int):Bool:=within (x.getD 0 0) 1 9999 && (within (x.getD 1 0) 0 9 && (within (x.getD 2 0) 0 10000 && within (x.getD 4 0) 0 (nC (x.getD 1 0))))
abbrev dcE(a b c d e f:Int):PV := .agg [aB a,aB b,aB c,aB d,aB e,aB f]
theorem iS(a b c d e f:Int):dcB [a,b,c,d,e,f]=(within a 1 9999 && (within b 0 9 && (within c 0 10000 && within e 0 (nC b)))):=rfl
theorem bWw(h0:x1=3)(h1:(within x0 (1:Int) (9999:Int))=true)(h2:(within x1 (0:Int) (9:Int))=true)(h3:(within x2 (0:Int) (10000:Int))=true)(er0:r0=(within x4 (0:Int) (0:Int))):FV Tp 107 [(.p (.agg [(aB x0),(aB x1),(aB x2),(aB x3),(aB x4),(aB x5)]))] base (pB r0) []:=by
 subst er0;have k1:=fk 1 (bW x0 (1:Int) (9999:Int)) rfl;have k2:=fk 1 (bW x1 (0:Int) (9:Int)) rfl;have k3:=fk 1 (bW x2 (0:Int) (10000:Int)) rfl;have k4:=fk 1 (bW x4 (0:Int) (0:Int)) rfl;exact FV.fi Tryz.func107 [bT,bT,bT,bT,bT,bT,bT,k1.o,bT,bT,bT,k2.o,bT,bT,bT,bT,k3.o,bT,bT,bT,bT,bT,k4.o,bT] (gc h3 (gc k4 (g4c h3 (gc h2 (gc k3 (g3c h2 (gc h1 (gc k2 (g3c h1 (gc k1 (g7c (dX h0) gn)))))))))))
theorem bWx(h0:x1=3)(h1:(within x0 (1:Int) (9999:Int))=true)(h2:(within x1 (0:Int) (9:Int))=true)(h3:(within x2 (0:Int) (10000:Int))=false):FV Tp 107 [(.p (.agg [(aB x0),(aB x1),(aB x2),(aB x3),(aB x4),(aB x5)]))] base (pB false) []:=by
 have k1:=fk 1 (bW x0 (1:Int) (9999:Int)) rfl;have k2:=fk 1 (bW x1 (0:Int) (9:Int)) rfl;have k3:=fk 1 (bW x2 (0:Int) (10000:Int)) rfl;exact FV.fi Tryz.func107 [bT,bT,bT,bT,bT,bT,bT,k1.o,bT,bT,bT,k2.o,bT,bT,bT,bT,k3.o,bT,bF,bF,bF,bF,bF] (g5c h3 (gc h2 (gc k3 (g3c h2 (gc h1 (gc k2 (g3c h1 (gc k1 (g7c (dX h0) gn)))))))))
theorem bWy(h0:x1=3)(h1:(within x0 (1:Int) (9999:Int))=true)(h2:(within x1 (0:Int) (9:Int))=false):FV Tp 107 [(.p (.agg [(aB x0),(aB x1),(aB x2),(aB x3),(aB x4),(aB x5)]))] base (pB false) []:=by
 have k1:=fk 1 (bW x0 (1:Int) (9999:Int)) rfl;have k2:=fk 1 (bW x1 (0:Int) (9:Int)) rfl;exact FV.fi Tryz.func107 [bT,bT,bT,bT,bT,bT,bT,k1.o,bT,bT,bT,k2.o,bT,bF,bF,bF,bF] (g4c h2 (gc h1 (gc k2 (g3c h1 (gc k1 (g7c (dX h0) gn))))))
theorem bWz(h0:x1=3)(h1:(within x0 (1:Int) (9999:Int))=false):FV Tp 107 [(.p (.agg [(aB x0),(aB x1),(aB x2),(aB x3),(aB x4),(aB x5)]))] base (pB false) []:=by
 have k1:=fk 1 (bW x0 (1:Int) (9999:Int)) rfl;exact FV.fi Tryz.func107 [bT,bT,bT,bT,bT,bT,bT,k1.o,bF,bF,bF,bF] (g4c h1 (gc k1 (g7c (dX h0) gn)))
theorem bXa(h0:x1≠3)(h1:(decide (x1≤4))=false)(h2:x1≠6)(h3:(within x0 (1:Int) (9999:Int))=true)(h4:(within x1 (0:Int) (9:Int))=true)(h5:(within x2 (0:Int) (10000:Int))=true)(er0:r0=(within x4 (0:Int) (0:Int))):FV Tp 107 [(.p (.agg [(aB x0),(aB x1),(aB x2),(aB x3),(aB x4),(aB x5)]))] base (pB r0) []:=by
 subst er0;have k1:=fk 1 (eL x1) rfl;have k2:=fk 1 (bW x0 (1:Int) (9999:Int)) rfl;have k3:=fk 1 (bW x1 (0:Int) (9:Int)) rfl;have k4:=fk 1 (bW x2 (0:Int) (10000:Int)) rfl;have k5:=fk 1 (bW x4 (0:Int) (0:Int)) rfl;exact FV.fi Tryz.func107 [bF,bF,bF,k1.o,bF,bF,bT,bT,bT,bF,bT,bF,bT,k2.o,bT,bT,bT,k3.o,bT,bT,bT,bT,k4.o,bT,bT,bT,bT,bT,k5.o,bT] (gc h5 (gc k5 (g4c h5 (gc h4 (gc k4 (g3c h4 (gc h3 (gc k3 (g3c h3 (gc k2 (gc (nB h2) (gc (bJ h0) (gc (bI h1) (gc (bJ h0) (g3c (bI h1) (g2c (bJ h0) (gc k1 (g3c (bJ h0) gn))))))))))))))))))
theorem bXb(h0:x1≠3)(h1:(decide (x1≤4))=false)(h2:x1≠6)(h3:(within x0 (1:Int) (9999:Int))=true)(h4:(within x1 (0:Int) (9:Int))=true)(h5:(within x2 (0:Int) (10000:Int))=false):FV Tp 107 [(.p (.agg [(aB x0),(aB x1),(aB x2),(aB x3),(aB x4),(aB x5)]))] base (pB false) []:=by
 have k1:=fk 1 (eL x1) rfl;have k2:=fk 1 (bW x0 (1:Int) (9999:Int)) rfl;have k3:=fk 1 (bW x1 (0:Int) (9:Int)) rfl;have k4:=fk 1 (bW x2 (0:Int) (10000:Int)) rfl;exact FV.fi Tryz.func107 [bF,bF,bF,k1.o,bF,bF,bT,bT,bT,bF,bT,bF,bT,k2.o,bT,bT,bT,k3.o,bT,bT,bT,bT,k4.o,bT,bF,bF,bF,bF,bF] (g5c h5 (gc h4 (gc k4 (g3c h4 (gc h3 (gc k3 (g3c h3 (gc k2 (gc (nB h2) (gc (bJ h0) (gc (bI h1) (gc (bJ h0) (g3c (bI h1) (g2c (bJ h0) (gc k1 (g3c (bJ h0) gn))))))))))))))))
theorem bXc(h0:x1≠3)(h1:(decide (x1≤4))=false)(h2:x1≠6)(h3:(within x0 (1:Int) (9999:Int))=true)(h4:(within x1 (0:Int) (9:Int))=false):FV Tp 107 [(.p (.agg [(aB x0),(aB x1),(aB x2),(aB x3),(aB x4),(aB x5)]))] base (pB false) []:=by
 have k1:=fk 1 (eL x1) rfl;have k2:=fk 1 (bW x0 (1:Int) (9999:Int)) rfl;have k3:=fk 1 (bW x1 (0:Int) (9:Int)) rfl;exact FV.fi Tryz.func107 [bF,bF,bF,k1.o,bF,bF,bT,bT,bT,bF,bT,bF,bT,k2.o,bT,bT,bT,k3.o,bT,bF,bF,bF,bF] (g4c h4 (gc h3 (gc k3 (g3c h3 (gc k2 (gc (nB h2) (gc (bJ h0) (gc (bI h1) (gc (bJ h0) (g3c (bI h1) (g2c (bJ h0) (gc k1 (g3c (bJ h0) gn)))))))))))))
theorem bXd(h0:x1≠3)(h1:(decide (x1≤4))=false)(h2:x1≠6)(h3:(within x0 (1:Int) (9999:Int))=false):FV Tp 107 [(.p (.agg [(aB x0),(aB x1),(aB x2),(aB x3),(aB x4),(aB x5)]))] base (pB false) []:=by
 have k1:=fk 1 (eL x1) rfl;have k2:=fk 1 (bW x0 (1:Int) (9999:Int)) rfl;exact FV.fi Tryz.func107 [bF,bF,bF,k1.o,bF,bF,bT,bT,bT,bF,bT,bF,bT,k2.o,bF,bF,bF,bF] (g4c h3 (gc k2 (gc (nB h2) (gc (bJ h0) (gc (bI h1) (gc (bJ h0) (g3c (bI h1) (g2c (bJ h0) (gc k1 (g3c (bJ h0) gn))))))))))
theorem bXe(h0:x1≠3)(h1:(decide (x1≤4))=false)(h2:x1=6)(h3:(within x0 (1:Int) (9999:Int))=true)(h4:(within x1 (0:Int) (9:Int))=true)(h5:(within x2 (0:Int) (10000:Int))=true)(er0:r0=(within x4 (0:Int) (36000:Int))):FV Tp 107 [(.p (.agg [(aB x0),(aB x1),(aB x2),(aB x3),(aB x4),(aB x5)]))] base (pB r0) []:=by
 subst er0;have k1:=fk 1 (eL x1) rfl;have k2:=fk 1 (bW x0 (1:Int) (9999:Int)) rfl;have k3:=fk 1 (bW x1 (0:Int) (9:Int)) rfl;have k4:=fk 1 (bW x2 (0:Int) (10000:Int)) rfl;have k5:=fk 1 (bW x4 (0:Int) (36000:Int)) rfl;exact FV.fi Tryz.func107 [bF,bF,bF,k1.o,bF,bF,bT,bT,bT,bF,bT,bF,bF,k2.o,bT,bT,bT,k3.o,bT,bT,bT,bT,k4.o,bT,bT,bT,bT,bT,k5.o,bT] (gc h5 (gc k5 (g4c h5 (gc h4 (gc k4 (g3c h4 (gc h3 (gc k3 (g3c h3 (gc k2 (gc (gB h2) (gc (bJ h0) (gc (bI h1) (gc (bJ h0) (g3c (bI h1) (g2c (bJ h0) (gc k1 (g3c (bJ h0) gn))))))))))))))))))
theorem bXf(h0:x1≠3)(h1:(decide (x1≤4))=false)(h2:x1=6)(h3:(within x0 (1:Int) (9999:Int))=true)(h4:(within x1 (0:Int) (9:Int))=true)(h5:(within x2 (0:Int) (10000:Int))=false):FV Tp 107 [(.p (.agg [(aB x0),(aB x1),(aB x2),(aB x3),(aB x4),(aB x5)]))] base (pB false) []:=by
 have k1:=fk 1 (eL x1) rfl;have k2:=fk 1 (bW x0 (1:Int) (9999:Int)) rfl;have k3:=fk 1 (bW x1 (0:Int) (9:Int)) rfl;have k4:=fk 1 (bW x2 (0:Int) (10000:Int)) rfl;exact FV.fi Tryz.func107 [bF,bF,bF,k1.o,bF,bF,bT,bT,bT,bF,bT,bF,bF,k2.o,bT,bT,bT,k3.o,bT,bT,bT,bT,k4.o,bT,bF,bF,bF,bF,bF] (g5c h5 (gc h4 (gc k4 (g3c h4 (gc h3 (gc k3 (g3c h3 (gc k2 (gc (gB h2) (gc (bJ h0) (gc (bI h1) (gc (bJ h0) (g3c (bI h1) (g2c (bJ h0) (gc k1 (g3c (bJ h0) gn))))))))))))))))
theorem bPz(h0:x1≠3)(h1:(decide (x1≤4))=false)(h2:x1=6)(h3:(within x0 (1:Int) (9999:Int))=true)(h4:(within x1 (0:Int) (9:Int))=false):FV Tp 107 [(.p (.agg [(aB x0),(aB x1),(aB x2),(aB x3),(aB x4),(aB x5)]))] base (pB false) []:=by
 have k1:=fk 1 (eL x1) rfl;have k2:=fk 1 (bW x0 (1:Int) (9999:Int)) rfl;have k3:=fk 1 (bW x1 (0:Int) (9:Int)) rfl;exact FV.fi Tryz.func107 [bF,bF,bF,k1.o,bF,bF,bT,bT,bT,bF,bT,bF,bF,k2.o,bT,bT,bT,k3.o,bT,bF,bF,bF,bF] (g4c h4 (gc h3 (gc k3 (g3c h3 (gc k2 (gc (gB h2) (gc (bJ h0) (gc (bI h1) (gc (bJ h0) (g3c (bI h1) (g2c (bJ h0) (gc k1 (g3c (bJ h0) gn)))))))))))))
theorem bQa(h0:x1≠3)(h1:(decide (x1≤4))=false)(h2:x1=6)(h3:(within x0 (1:Int) (9999:Int))=false):FV Tp 107 [(.p (.agg [(aB x0),(aB x1),(aB x2),(aB x3),(aB x4),(aB x5)]))] base (pB false) []:=by
 have k1:=fk 1 (eL x1) rfl;have k2:=fk 1 (bW x0 (1:Int) (9999:Int)) rfl;exact FV.fi Tryz.func107 [bF,bF,bF,k1.o,bF,bF,bT,bT,bT,bF,bT,bF,bF,k2.o,bF,bF,bF,bF] (g4c h3 (gc k2 (gc (gB h2) (gc (bJ h0) (gc (bI h1) (gc (bJ h0) (g3c (bI h1) (g2c (bJ h0) (gc k1 (g3c (bJ h0) gn))))))))))
theorem bQb(h0:x1≠3)(h1:(decide (x1≤4))=true)(h2:(within x0 (1:Int) (9999:Int))=true)(h3:(within x1 (0:Int) (9:Int))=true)(h4:(within x2 (0:Int) (10000:Int))=true)(er0:r0=(within x4 (0:Int) (36000:Int))):FV Tp 107 [(.p (.agg [(aB x0),(aB x1),(aB x2),(aB x3),(aB x4),(aB x5)]))] base (pB r0) []:=by
 subst er0;have k1:=fk 1 (eL x1) rfl;have k2:=fk 1 (bW x0 (1:Int) (9999:Int)) rfl;have k3:=fk 1 (bW x1 (0:Int) (9:Int)) rfl;have k4:=fk 1 (bW x2 (0:Int) (10000:Int)) rfl;have k5:=fk 1 (bW x4 (0:Int) (36000:Int)) rfl;exact FV.fi Tryz.func107 [bF,bF,bF,k1.o,bF,bF,bF,bF,bF,bF,bF,bF,k2.o,bT,bT,bT,k3.o,bT,bT,bT,bT,k4.o,bT,bT,bT,bT,bT,k5.o,bT] (gc h4 (gc k5 (g4c h4 (gc h3 (gc k4 (g3c h3 (gc h2 (gc k3 (g3c h2 (gc k2 (gc (bJ h0) (gc (aI h1) (gc (bJ h0) (g3c (aI h1) (g2c (bJ h0) (gc k1 (g3c (bJ h0) gn)))))))))))))))))
theorem bQc(h0:x1≠3)(h1:(decide (x1≤4))=true)(h2:(within x0 (1:Int) (9999:Int))=true)(h3:(within x1 (0:Int) (9:Int))=true)(h4:(within x2 (0:Int) (10000:Int))=false):FV Tp 107 [(.p (.agg [(aB x0),(aB x1),(aB x2),(aB x3),(aB x4),(aB x5)]))] base (pB false) []:=by
 have k1:=fk 1 (eL x1) rfl;have k2:=fk 1 (bW x0 (1:Int) (9999:Int)) rfl;have k3:=fk 1 (bW x1 (0:Int) (9:Int)) rfl;have k4:=fk 1 (bW x2 (0:Int) (10000:Int)) rfl;exact FV.fi Tryz.func107 [bF,bF,bF,k1.o,bF,bF,bF,bF,bF,bF,bF,bF,k2.o,bT,bT,bT,k3.o,bT,bT,bT,bT,k4.o,bT,bF,bF,bF,bF,bF] (g5c h4 (gc h3 (gc k4 (g3c h3 (gc h2 (gc k3 (g3c h2 (gc k2 (gc (bJ h0) (gc (aI h1) (gc (bJ h0) (g3c (aI h1) (g2c (bJ h0) (gc k1 (g3c (bJ h0) gn)))))))))))))))
theorem bQd(h0:x1≠3)(h1:(decide (x1≤4))=true)(h2:(within x0 (1:Int) (9999:Int))=true)(h3:(within x1 (0:Int) (9:Int))=false):FV Tp 107 [(.p (.agg [(aB x0),(aB x1),(aB x2),(aB x3),(aB x4),(aB x5)]))] base (pB false) []:=by
 have k1:=fk 1 (eL x1) rfl;have k2:=fk 1 (bW x0 (1:Int) (9999:Int)) rfl;have k3:=fk 1 (bW x1 (0:Int) (9:Int)) rfl;exact FV.fi Tryz.func107 [bF,bF,bF,k1.o,bF,bF,bF,bF,bF,bF,bF,bF,k2.o,bT,bT,bT,k3.o,bT,bF,bF,bF,bF] (g4c h3 (gc h2 (gc k3 (g3c h2 (gc k2 (gc (bJ h0) (gc (aI h1) (gc (bJ h0) (g3c (aI h1) (g2c (bJ h0) (gc k1 (g3c (bJ h0) gn))))))))))))
theorem bQe(h0:x1≠3)(h1:(decide (x1≤4))=true)(h2:(within x0 (1:Int) (9999:Int))=false):FV Tp 107 [(.p (.agg [(aB x0),(aB x1),(aB x2),(aB x3),(aB x4),(aB x5)]))] base (pB false) []:=by
 have k1:=fk 1 (eL x1) rfl;have k2:=fk 1 (bW x0 (1:Int) (9999:Int)) rfl;exact FV.fi Tryz.func107 [bF,bF,bF,k1.o,bF,bF,bF,bF,bF,bF,bF,bF,k2.o,bF,bF,bF,bF] (g4c h2 (gc k2 (gc (bJ h0) (gc (aI h1) (gc (bJ h0) (g3c (aI h1) (g2c (bJ h0) (gc k1 (g3c (bJ h0) gn)))))))))
theorem bXg(x0 x1 x2 x3 x4 x5:Int){base:Nat}:FV Tp 107 [.p (dcE x0 x1 x2 x3 x4 x5)] base (pB (dcB [x0,x1,x2,x3,x4,x5])) []:=by
 by_cases h3:x1=3
 ·have hm:nC x1=0:=by unfold nC;rw [if_pos (.inl h3)]
  cases hw0:within x0 1 9999 with
  | false=>rw [iS,hw0,Bool.false_and];exact bWz h3 hw0
  | true =>
  cases hw1:within x1 0 9 with
  | false=>rw [iS,hw0,hw1,hZ,Bool.false_and];exact bWy h3 hw0 hw1
  | true =>
  cases hw2:within x2 0 10000 with
  | false=>rw [iS,hw0,hw1,hw2,hZ,hZ,Bool.false_and];exact bWx h3 hw0 hw1 hw2
  | true =>
  rw [iS,hw0,hw1,hw2,hZ,hZ,hZ,hm];exact bWw h3 hw0 hw1 hw2 rfl
 by_cases h4:x1≤4
 ·have hm:nC x1=36000:=by unfold nC;rw [if_neg (by omega)]
  have h4':decide (x1≤4)=true:=by simpa using h4
  cases hw0:within x0 1 9999 with
  | false=>rw [iS,hw0,Bool.false_and];exact bQe h3 h4' hw0
  | true =>
  cases hw1:within x1 0 9 with
  | false=>rw [iS,hw0,hw1,hZ,Bool.false_and];exact bQd h3 h4' hw0 hw1
  | true =>
  cases hw2:within x2 0 10000 with
  | false=>rw [iS,hw0,hw1,hw2,hZ,hZ,Bool.false_and];exact bQc h3 h4' hw0 hw1 hw2
  | true =>
  rw [iS,hw0,hw1,hw2,hZ,hZ,hZ,hm];exact bQb h3 h4' hw0 hw1 hw2 rfl
 have h4':decide (x1≤4)=false:=by simpa using h4
 by_cases h6:x1=6
 ·have hm:nC x1=36000:=by unfold nC;rw [if_neg (by omega)]
  cases hw0:within x0 1 9999 with
  | false=>rw [iS,hw0,Bool.false_and];exact bQa h3 h4' h6 hw0
  | true =>
  cases hw1:within x1 0 9 with
  | false=>rw [iS,hw0,hw1,hZ,Bool.false_and];exact bPz h3 h4' h6 hw0 hw1
  | true =>
  cases hw2:within x2 0 10000 with
  | false=>rw [iS,hw0,hw1,hw2,hZ,hZ,Bool.false_and];exact bXf h3 h4' h6 hw0 hw1 hw2
  | true =>
  rw [iS,hw0,hw1,hw2,hZ,hZ,hZ,hm];exact bXe h3 h4' h6 hw0 hw1 hw2 rfl
 have hm:nC x1=0:=by unfold nC;rw [if_pos (by omega)]
 cases hw0:within x0 1 9999 with
 | false=>rw [iS,hw0,Bool.false_and];exact bXd h3 h4' h6 hw0
 | true =>
 cases hw1:within x1 0 9 with
 | false=>rw [iS,hw0,hw1,hZ,Bool.false_and];exact bXc h3 h4' h6 hw0 hw1
 | true =>
 cases hw2:within x2 0 10000 with
 | false=>rw [iS,hw0,hw1,hw2,hZ,hZ,Bool.false_and];exact bXb h3 h4' h6 hw0 hw1 hw2
 | true =>
 rw [iS,hw0,hw1,hw2,hZ,hZ,hZ,hm];exact bXa h3 h4' h6 hw0 hw1 hw2 rfl

def mG(l:List Int)(i:Nat)(me:List (Value × PV))(mk:Nat):St:=⟨fr 19 [(3,(.mp 0)),(7,(.p (aF l))),(8,(pI (l.length:Int))),(9,(pI (i:Int)))],[some (.mp me mk)]⟩
theorem cAx(hl0:aH Tp 0 zU (mG l 0 [] 0) (.exit 0) (mG l i'0 (eT m'1) m'1.length)):FV Tp 108 [(.p (aF l))] base (pB false) []:=by
 exact FV.fi Tryz.func108 [hl0.k 8 ⟨(rng [(0,3),(4,3),(10,9)]),[0],[],[]⟩] (gc hl0.code gn)
theorem cAy(hl0:aH Tp 0 zU (mG l 0 [] 0) .ret (dI (mG l i'0 (eT m'1) m'1.length) [(2,(.kb true))])):FV Tp 108 [(.p (aF l))] base (pB true) []:=by
 exact FV.fi Tryz.func108 [hl0.k 8 ⟨(rng [(0,3),(4,3),(10,9)]),[0],[],[]⟩] (gc hl0.code gn)
theorem bKa{y101:Bool}(h0:(i:Int)<(l.length:Int))(h1:l[i]? = some x100)(h2:cK .i64 (eT m) (.int .i64 x100))(h3:(dS (eT m) (.int .i64 x100))=true)(h4:fU (eT m) (.int .i64 x100)=some (blP y101))(h5:y101=true):aC Tp 0 zU (mG l i (eT m) m.length) .ret (dI (mG l i (eT m) m.length) [(2,(.kb true))]):=by
 exact aC.fi ⟨(rng [(0,2),(4,3),(10,9)]),[0],[],[]⟩ [bT,.x (aB x100),bT,.x (blP y101),bT] (gc h5 (gc h4 (gc h3 (gc h2 (gc (atm aB h1) (gc (ixn aB h1) (gc (aV h0) gn)))))))
theorem bKb{m':List Int}(h0:(i:Int)<(l.length:Int))(h1:l[i]? = some x100)(h2:cK .i64 (eT m) (.int .i64 x100))(h3:(dS (eT m) (.int .i64 x100))=false)(h4:inR (((i+1):Nat):Int))(ei':i'=(i+1))(em'e:eT m'=((eT m)++[((.int .i64 x100),(blP true))]))(em'k:m'.length=(m.length+1)):aC Tp 0 zU (mG l i (eT m) m.length) .normal (mG l i' (eT m') m'.length):=by
 subst ei';have raw:aC Tp 0 zU (mG l i (eT m) m.length) .normal (mG l (i+1) ((eT m)++[((.int .i64 x100),(blP true))]) (m.length+1)):=aC.fi ⟨(rng [(0,3),(4,3),(10,9)]),[0],[],[]⟩ [bT,.x (aB x100),bF,bF,bF] (gc h4 (gc h3 (gc h2 (gf (gc h3 (gc h2 (gc (atm aB h1) (gc (ixn aB h1) (gc (aV h0) gn)))))))));exact raw.cast (by rw [em'e,em'k])
theorem bKc(h0:(l.length:Int)≤(i:Int)):aC Tp 0 zU (mG l i (eT m) m.length) (.exit 0) (mG l i (eT m) m.length):=by
 exact aC.fi ⟨(rng [(0,3),(4,3),(10,9)]),[0],[],[]⟩ [bF] (gc (bA h0) gn)
def oH(sk:Lqq)(i:Nat)(on:Nat)(oc:List PV):St:=⟨fr 20 [(2,(.p dR)),(3,(.own 0)),(7,(.p (fS sk))),(8,(pI (sk.length:Int))),(9,(pI (i:Int)))],[some (.row 3 on oc)]⟩
theorem bXh(hl0:aH Tp 0 aNz (oH sk 0 0 []) (.exit 0) (oH sk i'0 o'1.length (o'1.map aB))):FV Tp 109 [(.p (.agg [(aB dl),(fS sk),(fS dc)]))] base (.own base) [(base,(.row 3 o'1.length (o'1.map aB)))]:=by
 exact FV.fi Tryz.func109 [hl0.k 8 ⟨(rng [(0,2),(4,3),(10,9)]),[1],[],[(3,3)]⟩] (gc hl0.code gn)
theorem bCp(h0:(i:Int)<(sk.length:Int))(h1:sk[i]? = some [y100,y101])(h2:uni 2 sk)(h3:[(aB y100)].length=1*1∧o.length+1≤1000000)(h4:inR (((i+1):Nat):Int))(ei':i'=(i+1))(eo'n:o'.length=(o.length+1))(eo'c:o'.map aB=((o.map aB)++[(aB y100)])):aC Tp 0 aNz (oH sk i o.length (o.map aB)) .normal (oH sk i' o'.length (o'.map aB)):=by
 subst ei';have raw:aC Tp 0 aNz (oH sk i o.length (o.map aB)) .normal (oH sk (i+1) (o.length+1) ((o.map aB)++[(aB y100)])):=aC.fi ⟨(rng [(0,2),(4,3),(10,9)]),[3],[],[]⟩ [bT,.x (.agg [(aB y100),(aB y101)])] (gc h4 (gc h3 (gc (aT (i:=i) h2 h1) (gc (bH (i:=i) h2 h1) (gc (bR (k:=2) (i:=(i:Int)) (by decide) h2 (kQ1 _) h1) (gc (aV h0) gn))))))
 exact raw.cast (by rw [eo'n,eo'c])
theorem bCq(h0:(sk.length:Int)≤(i:Int)):aC Tp 0 aNz (oH sk i o.length (o.map aB)) (.exit 0) (oH sk i o.length (o.map aB)):=by
 exact aC.fi ⟨(rng [(0,2),(4,3),(10,9)]),[0],[],[]⟩ [bF] (gc (bA h0) gn)
def oI(dc:Lqq)(i:Nat)(on:Nat)(oc:List PV):St:=⟨fr 20 [(2,(.p dR)),(3,(.own 0)),(7,(.p (fS dc))),(8,(pI (dc.length:Int))),(9,(pI (i:Int)))],[some (.row 3 on oc)]⟩
theorem bXi(hl0:aH Tp 0 aOa (oI dc 0 0 []) (.exit 0) (oI dc i'0 o'1.length (o'1.map aB))):FV Tp 110 [(.p (.agg [(aB dl),(fS sk),(fS dc)]))] base (.own base) [(base,(.row 3 o'1.length (o'1.map aB)))]:=by
 exact FV.fi Tryz.func110 [hl0.k 8 ⟨(rng [(0,2),(4,3),(10,9)]),[1],[],[(3,3)]⟩] (gc hl0.code gn)
theorem bCr{y102 y103 y104 y105:Int}(h0:(i:Int)<(dc.length:Int))(h1:dc[i]? = some [y100,y101,y102,y103,y104,y105])(h2:uni 6 dc)(h3:[(aB y100)].length=1*1∧o.length+1≤1000000)(h4:inR (((i+1):Nat):Int))(ei':i'=(i+1))(eo'n:o'.length=(o.length+1))(eo'c:o'.map aB=((o.map aB)++[(aB y100)])):aC Tp 0 aOa (oI dc i o.length (o.map aB)) .normal (oI dc i' o'.length (o'.map aB)):=by
 subst ei';have raw:aC Tp 0 aOa (oI dc i o.length (o.map aB)) .normal (oI dc (i+1) (o.length+1) ((o.map aB)++[(aB y100)])):=aC.fi ⟨(rng [(0,2),(4,3),(10,9)]),[3],[],[]⟩ [bT,.x (.agg [(aB y100),(aB y101),(aB y102),(aB y103),(aB y104),(aB y105)])] (gc h4 (gc h3 (gc (aT (i:=i) h2 h1) (gc (bH (i:=i) h2 h1) (gc (bR (k:=6) (i:=(i:Int)) (by decide) h2 (kQ1 _) h1) (gc (aV h0) gn))))))
 exact raw.cast (by rw [eo'n,eo'c])
theorem bCs(h0:(dc.length:Int)≤(i:Int)):aC Tp 0 aOa (oI dc i o.length (o.map aB)) (.exit 0) (oI dc i o.length (o.map aB)):=by
 exact aC.fi ⟨(rng [(0,2),(4,3),(10,9)]),[0],[],[]⟩ [bF] (gc (bA h0) gn)
theorem aWo(l:List Int)(hl:l.length≤1000)(hb:∀ x∈l,-1000000≤x∧x≤1000000):∀ (d i:Nat),i+d=l.length→(l.take i).Nodup →
  (l.Nodup∧aH Tp 0 zU (mG l i (eT (l.take i)) (l.take i).length) (.exit 0) (mG l l.length (eT l) l.length))∨(¬ l.Nodup∧∃ i' m',aH Tp 0 zU (mG l i (eT (l.take i)) (l.take i).length) .ret (dI (mG l i' (eT m') m'.length) [(2,.kb true)]))
 | 0,i,h,hn=>by
  obtain rfl:i=l.length:=by omega
  rw [List.take_length] at hn ⊢
  exact .inl ⟨hn,.exit (bKc (by omega)) (by simp)⟩
 | d+1,i,h,hn=>by
  have hi:i<l.length:=by omega
  have hx:l[i]? = some l[i]:=kQ0 hi;have et:l.take (i+1)=l.take i++[l[i]]:=by rw [List.take_add_one,hx];rfl
  have hk:=aTm hn (fun x hx=>hb x (List.mem_of_mem_take hx)) (hb _ (gS hi))
  by_cases hm:l[i]∈l.take i
  ·refine .inr ⟨fun hnd => ?_,i,l.take i,.exit (bKa (by omega) hx hk (bKe hm) (bCt hm) rfl) (by simp)⟩
   obtain ⟨j,hj,e⟩:=List.mem_iff_getElem.1 hm;rw [mY] at hj
   rw [List.getElem_take] at e
   exact List.pairwise_iff_getElem.1 hnd j i (by omega) hi (by omega) e
  ·have hn2:(l.take (i+1)).Nodup:=by
    rw [et,List.nodup_append];exact ⟨hn,by simp,fun a ha b hb e=>hm (by simp at hb;rw [← hb,← e];exact ha)⟩
   have hstep:=bKb (m:=l.take i) (m':=l.take (i+1)) (i':=i+1) (by omega) hx hk (bKd hm) (aO (by omega)) rfl (by rw [et,aTl]) (by simp;omega)
   rcases aWo l hl hb d (i+1) (by omega) hn2 with ⟨q1,q2⟩ | ⟨q1,i',m',q2⟩
   ·exact .inl ⟨q1,.step hstep q2⟩
   ·exact .inr ⟨q1,i',m',.step hstep q2⟩
theorem wT(l:List Int)(hl:l.length≤1000)(hb:∀ x∈l,-1000000≤x∧x≤1000000){base:Nat}:FV Tp 108 [.p (aF l)] base (pB (!decide l.Nodup)) []:=by
 rcases aWo l hl hb l.length 0 (by omega) (by simp) with ⟨q1,q2⟩ | ⟨q1,i',m',q2⟩
 ·rw [decide_eq_true q1];exact cAx q2
 ·rw [decide_eq_false q1];exact cAy q2
theorem oJ(dl:Int)(sk dc:Lqq)(h:uni 2 sk∧sk.length≤1000){base:Nat}:FV Tp 109 [.p (.agg [aB dl,.sl sk.length (sk.flatten.map aB),.sl dc.length (dc.flatten.map aB)])] base (.own base) [(base,.row 3 (aP sk 0).length ((aP sk 0).map aB))]:=by
 obtain ⟨hu,hl⟩:=h;have L:=aH.count (P:=Tp) (k:=0) (b:=aNz) (e := .exit 0) (R:=oH sk sk.length (aP sk 0).length ((aP sk 0).map aB)) sk.length (fun i=>oH sk i (aP (sk.take i) 0).length ((aP (sk.take i) 0).map aB))
  (fun i hi'=>by
   obtain ⟨a,b,hx⟩:=at2 hu hi';have et:sk.take (i+1)=sk.take i++[[a,b]]:=by rw [List.take_add_one,hx];rfl
   exact bCp (o:=aP (sk.take i) 0) (o':=aP (sk.take (i+1)) 0) (by omega) hx hu ⟨rfl,by simp [aP];omega⟩ (aO (by omega)) rfl (by simp [aP];omega) (by rw [et];simp [aP]))
  (by rw [List.take_length];exact bCq (by omega)) (by simp)
 exact bXh L
theorem aKg(dl:Int)(sk dc:Lqq)(h:uni 6 dc∧dc.length≤1000){base:Nat}:FV Tp 110 [.p (.agg [aB dl,.sl sk.length (sk.flatten.map aB),.sl dc.length (dc.flatten.map aB)])] base (.own base) [(base,.row 3 (aP dc 0).length ((aP dc 0).map aB))]:=by
 obtain ⟨hu,hl⟩:=h;have L:=aH.count (P:=Tp) (k:=0) (b:=aOa) (e := .exit 0) (R:=oI dc dc.length (aP dc 0).length ((aP dc 0).map aB)) dc.length (fun i=>oI dc i (aP (dc.take i) 0).length ((aP (dc.take i) 0).map aB))
  (fun i hi'=>by
   obtain ⟨a,b,c,d,e,g,hx⟩:=at6 hu hi';have et:dc.take (i+1)=dc.take i++[[a,b,c,d,e,g]]:=by rw [List.take_add_one,hx];rfl
   exact bCr (o:=aP (dc.take i) 0) (o':=aP (dc.take (i+1)) 0) (by omega) hx hu ⟨rfl,by simp [aP];omega⟩ (aO (by omega)) rfl (by simp [aP];omega) (by rw [et];simp [aP]))
  (by rw [List.take_length];exact bCs (by omega)) (by simp)
 exact bXi L
end
end KV
end Go.Proofs
