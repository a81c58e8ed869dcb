/- Parts of the proof of JSeeded: laws of walks, contracts of functions, plain models. No condition. -/
import Derived.Test.YtdcbhchecadlfaaGreatProg
import Derived.ProofKit
import Derived.Carry
import Derived.WalkKit
import Derived.Shelf.Abstract
import Derived.Shelf.Small.Bits
import Derived.Shelf.Small.Wraps
import Derived.Shelf.Strconv.Itoa0
import Derived.Shelf.Sort.Plain
import Derived.Ground.Names2Prog
import Derived.Shelf.Slices.Clone
import Derived.Shelf.Slices.CompactI
import Derived.Shelf.Slices.In.SortNone
import Derived.Shelf.SlicesE.DeleteFunc
import Derived.Ground.SlgfProg
import Derived.Sort.OwnSortedInts
import Derived.Lib.OwnBridge
import Derived.OneCell
import Derived.Deep.QuietTactic
import Derived.BigQuiet
import Derived.Test.YtdcbhchecadlfaaGreatPJSeededA
set_option linter.unusedVariables false
set_option linter.unusedSimpArgs false
set_option maxRecDepth 100000
namespace Go.Proofs
namespace KV
section
variable {P:Program} {T:TT} {E:Env} {C C0:Cx} {M M0:Mem} {w w0:World}

def cost(o:Oper):Nat:=match o.op with
  | .alloc _ | .box _ _ | .buildSlice _ _ _ | .makeSlice _ _ _=>1
  | .call c=>match c.callee with
    | .builtin _=>1
    | _=>4
  | _=>0
def ido(ops:List Oper)(base k:Nat):Nat:=base+((ops.take k).map cost).sum

abbrev Out1:=AV × Upd × Option (List Nat)
def ftOf(q:Out1):Ft:=⟨q.2.2,q.2.1.map (·.1)⟩

def askAuto:Ask Bool:=fun s=>some (s.auto,s)
theorem ask_auto{s s':AS}{b:Bool}(h:askAuto s=some (b,s')):b=s.auto∧s'=s:=by
  unfold askAuto at h
  cases h
  exact ⟨rfl,rfl⟩
theorem mono_askAuto:Mono askAuto:=fun s r s' e p hp=>by obtain ⟨_,rfl⟩:=ask_auto e;exact hp
def runD(P:Program)(T:TT)(E:Env)(ops:List Oper):List Oper→Nat→St→Ask (List Ft × St)
  | [],_,st=>pure ([],st)
  | o::r,id,st=>do
    let go ← guardOf ops o st
    match go with
    | true=>do
      let vs ← lift (evs st o.op.operands.toList)
      let au ← askAuto
      let q ← core P T E o vs st.m id
      let y ← runD P T E ops r (id+cost o) ⟨put st.t o.dst q.1,upds st.m q.2⟩
      pure (⟨fpm o vs st.m id au,q.2.map (·.1)⟩::y.1,y.2)
    | false=>do
      let y ← runD P T E ops r (id+cost o) ⟨put st.t o.dst (.tup []),st.m⟩
      pure (⟨some [],[]⟩::y.1,y.2)

def waitsT(ops:Array Oper):Nat→Nat→Nat→Bool
  | 0,_,_=>false
  | n+1,k,j=>match ops[j]? with
    | some oj=>(oj.after.any fun e=>Region.binds .any e && e.on == k) || oj.after.any fun e=>Region.binds .any e && waitsT ops n k e.on
    | none=>false
def restOK(ops:Array Oper)(k:Nat)(f:Ft):Nat→List Ft→Bool
  | _,[]=>true
  | j,g::r=>(okFt f g || waitsT ops 5 k j) && restOK ops k f (j+1) r
def apartL(ops:Array Oper):Nat→List Ft→Bool
  | _,[]=>true
  | k,f::r=>restOK ops k f (k+1) r && apartL ops (k+1) r

def next(o:Oper)(q:Out1)(st:St):St:=⟨put st.t o.dst q.1,upds st.m q.2.1⟩

inductive LexR (P:Program) (T:TT) (E:Env) (ops:List Oper):Nat→List Oper→St→List Out1→St→Prop
  | nil (id:Nat) (st:St):LexR P T E ops id [] st [] st
  | cons (id:Nat) (o:Oper) (l:List Oper) (st:St) (q:Out1) (os:List Out1) (fin:St) (h:StepR P T E ops o id st q.1 q.2.1 q.2.2) (hr:LexR P T E ops (id+cost o) l (next o q st) os fin):LexR P T E ops id (o::l) st (q::os) fin

theorem mono_runD{ops:List Oper}:∀ {l:List Oper} {id:Nat} {st:St},Mono (runD P T E ops l id st)
  | [],_,_=>mono_pure _
  | _::_,_,_=>by
    unfold runD
    refine mono_bind mono_guard fun _ => ?_
    split
    · exact mono_lb fun _=>mono_bind mono_askAuto fun _=>mono_bind mono_core fun _=>mono_bind mono_runD fun _=>mono_pure _
    · exact mono_bind mono_runD fun _=>mono_pure _

theorem runD_lex{ops:List Oper}:∀ (l:List Oper) (id:Nat) {st fin:St} {fts:List Ft} {s s':AS},runD P T E ops l id st s=some ((fts,fin),s')→Good s'→∃ os:List Out1,fts=os.map ftOf∧LexR P T E ops id l st os fin
  | [],id,st,fin,fts,s,s',h,g=>by
    obtain ⟨he,rfl⟩:=ask_pure h
    cases he
    exact ⟨[],rfl,.nil _ _⟩
  | o::l,id,st,fin,fts,s,s',h,g=>by
    unfold runD at h
    obtain ⟨go,s1,h1,k1⟩:=ask_bind h
    cases go with
    | true =>
      obtain ⟨vs,s2,h2,k2⟩:=ask_bind k1
      obtain ⟨e2,rfl⟩:=ask_lift h2
      obtain ⟨au,sa,ha,ka⟩:=ask_bind k2
      obtain ⟨rfl,rfl⟩:=ask_auto ha
      obtain ⟨q,s3,h3,k3⟩:=ask_bind ka
      obtain ⟨y,s4,h4,k4⟩:=ask_bind k3
      obtain ⟨he,rfl⟩:=ask_pure k4
      cases he
      obtain ⟨os,e5,hl⟩:=runD_lex l _ (fts:=y.1) (fin:=y.2) h4 g
      have g3:=mono_runD.good h4 g
      exact ⟨(q.1,q.2,fpm o vs st.m id sa.auto)::os,by rw [List.map_cons,e5];rfl,.cons _ _ _ _ (q.1,q.2,fpm o vs st.m id sa.auto) _ _ ⟨s,sa,.inr ⟨h1,vs,s3,e2,h3,g3,rfl⟩⟩ hl⟩
    | false =>
      obtain ⟨y,s4,h4,k4⟩:=ask_bind k1
      obtain ⟨he,rfl⟩:=ask_pure k4
      cases he
      obtain ⟨os,e5,hl⟩:=runD_lex l _ (fts:=y.1) (fin:=y.2) h4 g
      exact ⟨(.tup [],[],some [])::os,by rw [List.map_cons,e5];rfl,.cons _ _ _ _ (.tup [],[],some []) _ _ ⟨s,s1,.inl ⟨h1,mono_runD.good h4 g,rfl,rfl,rfl⟩⟩ hl⟩

def AnyR(P:Program)(T:TT)(E:Env)(ops:List Oper)(base:Nat)(out:Nat→Out1)(fin:St):Nat→Array Bool→St→Prop
  | 0,listed,st=>Region.ready .any ops.toArray listed=[]∧st=fin
  | fuel+1,listed,st=>(Region.ready .any ops.toArray listed=[]→st=fin) ∧
    ∀ j∈Region.ready .any ops.toArray listed,∃ o,ops[j]? = some o∧StepR P T E ops o (ido ops base j) st (out j).1 (out j).2.1 (out j).2.2∧AnyR P T E ops base out fin fuel (listed.setIfInBounds j true) (next o (out j) st)

def Closed(ops:List Oper)(listed:Array Bool):Prop:=∀ j oj,ops[j]? = some oj→listed.getD j false=true→∀ e∈oj.after,Region.binds .any e=true→listed.getD e.on false=true

theorem waitsT_no{ops:List Oper}{listed:Array Bool}{i:Nat}(hc:Closed ops listed)(hi:listed.getD i false=false):∀ (n j:Nat),(∀ oj,ops[j]? = some oj→∀ e∈oj.after,Region.binds .any e=true→listed.getD e.on false=true)→waitsT ops.toArray n i j=false
  | 0,_,_=>rfl
  | n+1,j,h=>by
    unfold waitsT
    cases hj:ops[j]? with
    | none=>simp [hj]
    | some oj =>
      simp only [List.getElem?_toArray,hj,Bool.or_eq_false_iff]
      refine ⟨?_,?_⟩
      · rw [Bool.eq_false_iff]
        intro hw
        obtain ⟨e,he,hb⟩:=Array.any_eq_true'.1 hw
        simp only [Bool.and_eq_true,beq_iff_eq] at hb
        have:=h oj hj e he hb.1
        rw [hb.2,hi] at this
        cases this
      · rw [Bool.eq_false_iff]
        intro hw
        obtain ⟨e,he,hb⟩:=Array.any_eq_true'.1 hw
        simp only [Bool.and_eq_true] at hb
        have h1:=h oj hj e he hb.1
        rw [waitsT_no hc hi n e.on (fun o ho e' he' hb'=>hc e.on o ho h1 e' he' hb')] at hb
        cases hb.2

theorem closed_set{ops:List Oper}{listed:Array Bool}{j:Nat}(hc:Closed ops listed)(hj:∀ oj,ops[j]? = some oj→∀ e∈oj.after,Region.binds .any e=true→listed.getD e.on false=true):Closed ops (listed.setIfInBounds j true):=fun k ok hk hl e he hb=>by
  refine getD_set_true ?_
  by_cases h:j=k
  · subst h;exact hj ok hk e he hb
  · rw [getD_set_ne false h] at hl
    exact hc k ok hk hl e he hb

theorem AnyR.first{ops:List Oper}{base:Nat}{out:Nat→Out1}{fin:St}{i:Nat}{oi:Oper}(hi:ops[i]? = some oi):∀ (fuel:Nat) (listed:Array Bool) (st:St),
    (∀ j oj,ops[j]? = some oj→j≠i→listed.getD j true=false→(∀ e∈oj.after,Region.binds .any e=true→e.on≠i)→oi.apart ops.toArray oj=true∧(okFt (ftOf (out i)) (ftOf (out j))=true∨waitsT ops.toArray 5 i j=true))→Closed ops listed →
    i∈Region.ready .any ops.toArray listed→StepR P T E ops oi (ido ops base i) st (out i).1 (out i).2.1 (out i).2.2→AnyR P T E ops base out fin fuel (listed.setIfInBounds i true) (next oi (out i) st)→AnyR P T E ops base out fin (fuel+1) listed st:=by
  intro fuel
  induction fuel with
  | zero =>
    intro listed st _ _ hr hs H
    refine ⟨fun h=>(by rw [h] at hr;cases hr),fun j hj => ?_⟩
    by_cases hji:j=i
    · subst hji;exact ⟨oi,hi,hs,H⟩
    · have:=ready_mono hj hji
      rw [H.1] at this
      cases this
  | succ fuel ih =>
    intro listed st hfree hcl hr hs H
    refine ⟨fun h=>(by rw [h] at hr;cases hr),fun j hj => ?_⟩
    by_cases hji:j=i
    · subst hji;exact ⟨oi,hi,hs,H⟩
    · obtain ⟨oj,hoj,hsj,hH⟩:=H.2 j (ready_mono hj hji)
      obtain ⟨hjun,oj',hoj',hall⟩:=mem_ready.1 hj
      have:oj'=oj:=by
        rw [List.getElem?_toArray,hoj] at hoj'
        cases hoj';rfl
      subst this
      have hnot:∀ e∈oj'.after,Region.binds .any e=true→e.on≠i:=fun e he hb heq=>by
        have h1:=hall e he hb
        have h0:=(mem_ready.1 hr).1
        rw [heq] at h1
        rcases Nat.lt_or_ge i listed.size with h' | h'
        · simp [h'] at h0 h1;rw [h0] at h1;cases h1
        · simp [Array.getElem?_eq_none h'] at h1
      have hjun':listed.getD j true=false:=by
        rcases Nat.lt_or_ge j listed.size with h' | h'
        · simpa [h'] using hjun
        · exact hjun
      obtain ⟨hap,hok⟩:=hfree j oj' hoj hji hjun' hnot
      have hjall:∀ oj,ops[j]? = some oj→∀ e∈oj.after,Region.binds .any e=true→listed.getD e.on false=true:=fun o ho e he hb=>by
        rw [hoj] at ho;cases ho;exact hall e he hb
      have hiun:listed.getD i false=false:=by
        have h0:=(mem_ready.1 hr).1
        rcases Nat.lt_or_ge i listed.size with h' | h'
        · simp [h'] at h0 ⊢;exact h0
        · simp [Nat.not_lt.2 h']
      replace hok:=hok.resolve_right (by rw [waitsT_no hcl hiun 5 j hjall];simp)
      obtain ⟨m1,m2,m3,m4⟩:=StepR.move hap hok hs hsj
      have hnx:next oj' (out j) (next oi (out i) st)=next oi (out i) (next oj' (out j) st):=by
        unfold next;simp only [m3,m4]
      refine ⟨oj',hoj,m1,ih _ _ (fun k ok hk hki hun hno=>hfree k ok hk hki ?_ hno) (closed_set hcl hjall) (ready_mono hr (Ne.symm hji)) m2 ?_⟩
      · by_cases hjk:j=k
        · subst hjk;exact hjun'
        · rw [getD_set_ne true hjk] at hun;exact hun
      · rw [hnx,Array.setIfInBounds_comm _ _ (Ne.symm hji)] at hH
        exact hH

theorem ido_succ{ops:List Oper}{base k:Nat}{o:Oper}(h:ops[k]? = some o):ido ops base (k+1)=ido ops base k+cost o:=by
  unfold ido
  rw [List.take_add_one,h]
  simp [Nat.add_assoc]

theorem AnyR.lex{ops:List Oper}{base:Nat}{out:Nat→Out1}{fin:St}:∀ (l:List Oper) (k:Nat) (listed:Array Bool) (st:St) (os:List Out1),(∀ j,l[j]? = ops[k+j]?)→(∀ j q,os[j]? = some q→out (k+j)=q)→(∀ j,j<k→listed.getD j true=true)→Closed ops listed →
    (∀ i j,k≤i→i<j→(ops[j]?).isSome→okFt (ftOf (out i)) (ftOf (out j))=true∨waitsT ops.toArray 5 i j=true) →
    Region.lexFrom .any ops.toArray l.length k listed=true→LexR P T E ops (ido ops base k) l st os fin→AnyR P T E ops base out fin l.length listed st
  | [],k,listed,st,os,_,_,_,_,_,hB,h=>by
    cases h
    exact ⟨by simpa [Region.lexFrom] using hB,rfl⟩
  | o::l,k,listed,st,os,hl,ho,hk,hcl,hA,hB,h=>by
    cases h with
    | cons _ _ _ _ q os _ hs hr =>
      have h0:ops[k]? = some o:=by simpa using (hl 0).symm
      have hq:out k=q:=ho 0 q rfl
      simp only [List.length_cons,Region.lexFrom,Bool.and_eq_true] at hB
      obtain ⟨⟨hrd,hf⟩,hB'⟩:=hB
      have h0':ops.toArray[k]? = some o:=by rw [List.getElem?_toArray];exact h0
      have hrd':k∈Region.ready .any ops.toArray listed:=by simpa using hrd
      have hkall:∀ oj,ops[k]? = some oj→∀ e∈oj.after,Region.binds .any e=true→listed.getD e.on false=true:=fun o' ho' e he hb=>by
        obtain ⟨_,o2,ho2,hall⟩:=mem_ready.1 hrd'
        rw [h0'] at ho2;cases ho2
        rw [h0] at ho';cases ho'
        exact hall e he hb
      refine AnyR.first h0 l.length listed st (fun j oj hj hjk hun hno => ?_) hcl hrd' (by rw [hq];exact hs) ?_
      · refine ⟨Region.free_spec h0' hf j oj (by rw [List.getElem?_toArray];exact hj) hjk hun hno,?_⟩
        have hlt:k<j:=by
          rcases Nat.lt_trichotomy k j with h1 | h1 | h1
          · exact h1
          · exact absurd h1.symm hjk
          · rw [hk j h1] at hun;cases hun
        exact hA k j (Nat.le_refl _) hlt (by rw [hj];rfl)
      · rw [hq]
        refine AnyR.lex l (k+1) _ _ os (fun j=>by have:=hl (j+1);simpa [Nat.add_assoc,Nat.add_comm 1 j] using this) (fun j q' hj=>by have:=ho (j+1) q' (by simpa using hj);rw [← this];congr 1;omega) (fun j hj => ?_) (closed_set hcl hkall)
          (fun i j hi=>hA i j (by omega)) hB' (by rw [ido_succ h0];exact hr)
        by_cases e:k=j
        · subst e
          rcases Nat.lt_or_ge k listed.size with h' | h'
          · simp [h']
          · simp [Nat.not_lt.2 h']
        · rw [getD_set_ne true e];exact hk j (by omega)

theorem restOK_spec{ops:Array Oper}{k:Nat}{f:Ft}:∀ (l:List Ft) (j:Nat),restOK ops k f j l=true→∀ i g,l[i]? = some g→okFt f g=true∨waitsT ops 5 k (j+i)=true
  | [],_,_,i,g,h=>by simp at h
  | x::l,j,h,i,g,hi=>by
    unfold restOK at h
    rw [Bool.and_eq_true,Bool.or_eq_true] at h
    cases i with
    | zero=>simp at hi;subst hi;exact h.1
    | succ i =>
      have:=restOK_spec l (j+1) h.2 i g (by simpa using hi)
      rwa [show j+1+i=j+(i+1) by omega] at this
theorem apartL_spec{ops:Array Oper}:∀ (l:List Ft) (k:Nat),apartL ops k l=true→∀ i j f g,i<j→l[i]? = some f→l[j]? = some g→okFt f g=true∨waitsT ops 5 (k+i) (k+j)=true
  | [],_,_,i,j,f,g,_,h,_=>by simp at h
  | x::l,k,h,i,j,f,g,hij,hi,hj=>by
    unfold apartL at h
    rw [Bool.and_eq_true] at h
    cases j with
    | zero=>omega
    | succ j =>
      cases i with
      | zero =>
        simp at hi;subst hi
        have:=restOK_spec l (k+1) h.1 j g (by simpa using hj)
        rwa [show k+1+j=k+(j+1) by omega] at this
      | succ i =>
        have:=apartL_spec l (k+1) h.2 i j f g (by omega) (by simpa using hi) (by simpa using hj)
        rwa [show k+1+i=k+(i+1) by omega,show k+1+j=k+(j+1) by omega] at this

theorem AnyR.sound(hT:∀ t i,T t=some i→tiOf P t=some i)(hE:EnvOK P E){ops:List Oper}{base:Nat}{out:Nat→Out1}{fin:St}{ro:Option Nat}{n:Nat}{Q:Exit→Act→World→Prop}(hQ:∀ a' w',Sim P C0 M0 w0 fin a' w'→Q .normal a' w') :
    ∀ (fuel:Nat) (listed:Array Bool) (st:St) (a:Act) (w:World),AnyR P T E ops base out fin fuel listed st→Sim P C0 M0 w0 st a w→wpAnyIn (Fen ro) n P .any ops.toArray Q fuel listed a w
  | 0,listed,st,a,w,h,hs=>⟨h.1,hQ _ _ (h.2 ▸ hs)⟩
  | fuel+1,listed,st,a,w,h,hs=>by
    refine ⟨fun h0=>hQ _ _ (h.1 h0 ▸ hs),fun j hj => ?_⟩
    obtain ⟨o,ho,hst,hr⟩:=h.2 j hj
    have:=hst.op hT hE C0 M0 w0 a w hs ro n (wpAnyIn (Fen ro) n P .any ops.toArray Q fuel (listed.setIfInBounds j true)) Q (fun a' w' hs'=>AnyR.sound hT hE hQ fuel _ _ _ _ hr hs')
    unfold wpOpIn
    simp only [List.getElem?_toArray,ho]
    exact this
end
section
variable {P:Program} {T:TT} {E:Env} {C C0:Cx} {M M0:Mem} {w w0:World}

mutual
def fzA(id n:Nat)(cs:List PV):AV→AV
  | .own i=>match Nat.beq i id with
    | true => .p (.sl n cs)
    | false => .own i
  | .arr i off k=>match Nat.beq i id with
    | true => .p (.sl k ((cs.drop off).take (k*(cs.length / n))))
    | false => .arr i off k
  | .ptr i off=>match Nat.beq i id with
    | true => .rp cs off
    | false => .ptr i off
  | .agg l=>ofCells (fzL id n cs l)
  | .tup l => .tup (fzL id n cs l)
  | .fn f a b => .fn f (fzL id n cs a) (fzL id n cs b)
  | .p x => .p x
  | .rp cs o => .rp cs o
  | .yld l => .yld l
  | .kb b => .kb b
  | .mp i => .mp i
  | .any => .any
def fzL(id n:Nat)(cs:List PV):List AV→List AV
  | []=>[]
  | x::r=>fzA id n cs x::fzL id n cs r
end

theorem fzL_len(id n:Nat)(cs:List PV):∀ l:List AV,(fzL id n cs l).length=l.length
  | []=>by simp [fzL]
  | x::r=>by simp [fzL,fzL_len id n cs r]

section
variable {id ty n:Nat} {cs:List PV} (hM:MemOK P C M w) (ho:M[id]? = some (some (.row ty n cs)))
include hM ho
mutual
theorem fzA_sound:∀ {x:AV} {u:Value},Rep C M w x u→Rep (C.close id true) (setAt M id (some .dead)) w (fzA id n cs x) u
  | .own i,u,h=>by
    have hL:=hM.le (fr_kill true ho rfl)
    simp only [fzA]
    split
    · rename_i hb
      have:=Nat.eq_of_beq_eq_true hb
      subst this
      exact .p _ _ (closed_row hM ho h)
    · exact h.mono hL
  | .arr i off k,u,h=>by
    have hL:=hM.le (fr_kill true ho rfl)
    simp only [fzA]
    split
    · rename_i hb
      have:=Nat.eq_of_beq_eq_true hb
      subst this
      cases h with
      | arr _ _ _ u h0 ha hrow =>
        rcases hrow _ ho rfl with ⟨rfl,p,cap,rfl,hc⟩ | ⟨b,cap,rfl,hn,hc,hb⟩
        · rw [Nat.zero_mul,List.take_zero]
          exact .p _ _ (.sl 0 [] p cap (fun _=>undef) (Nat.zero_le _) hc (fun i h=>by simp at h) (fun i h=>by simp at h) (fun i h=>by simp at h))
        · rcases hM.row _ _ _ _ ho with ⟨hn',_⟩ | ⟨b',arr,inf,hb',q1,q2,q3,q4,q5,q6,q7,q8⟩
          · rw [hb] at hn';cases hn'
          · rw [hb] at hb';cases hb'
            have hle:cs.length≤arr.size:=by rw [q3,q4];exact Nat.mul_le_mul_right _ q5
            have hlt:∀ i,i<((cs.drop off).take (k*(cs.length / n))).length→off+i<cs.length:=fun i hi=>by simp at hi;omega
            refine .p _ _ (.sl k _ _ cap (fun j=>arr.getD (off+j) undef) hn hc (fun j hj=>⟨b,off,rfl,.inr ⟨rfl,hb⟩,cell_of_heap q1 (by have:=hlt j hj;omega)⟩) (fun j hj => ?_) (fun j hj=>q8 _ (hlt j hj)))
            simp only [List.getElem_take,List.getElem_drop]
            exact (q7 _ (hlt j hj)).mono (fun _ h => .inl h) (fun _ _=>rfl)
    · exact h.mono hL
  | .ptr i off,u,h=>by
    have hL:=hM.le (fr_kill true ho rfl)
    simp only [fzA]
    split
    · rename_i hb
      have:=Nat.eq_of_beq_eq_true hb
      subst this
      obtain ⟨b,rfl,hb⟩:=ptr_live h (live_of ho rfl)
      rcases hM.row _ _ _ _ ho with ⟨hn,_⟩ | ⟨b',arr,inf,hb',q1,q2,q3,q4,q5,q6,q7,q8⟩
      · rw [hb] at hn;cases hn
      · rw [hb] at hb';cases hb'
        have hle:cs.length≤arr.size:=by rw [q3,q4];exact Nat.mul_le_mul_right _ q5
        have:=Rep.rp (C:=C.close i true) (M:=setAt M i (some .dead)) (w:=w) cs off b 0 (fun j=>arr.getD j undef) (fun i hi=>⟨.inr ⟨rfl,hb⟩,by rw [Nat.zero_add];exact cell_of_heap q1 (by omega)⟩) (fun i hi=>(q7 i hi).mono (fun _ h => .inl h) (fun _ _=>rfl)) q8
        rwa [Nat.zero_add] at this
    · exact h.mono hL
  | .agg l,u,h=>by
    cases h with
    | agg _ vs h0 h1 h2 =>
      simp only [fzA]
      obtain ⟨q1,q2⟩:=fzL_sound (us:=fun i=>vs.getD i undef) h2
      exact ofCells_rep (fun i hi=>h0 i (by omega)) (by omega) q2
  | .tup l,u,h=>by
    cases h with
    | tup _ vs h1 h2 =>
      simp only [fzA]
      obtain ⟨q1,q2⟩:=fzL_sound (us:=fun i=>vs.getD i undef) h2
      exact .tup _ _ (by omega) q2
  | .fn f a b,u,h=>by
    cases h with
    | fn _ _ _ us vs h1 h2 h3 h4 =>
      simp only [fzA]
      obtain ⟨q1,q2⟩:=fzL_sound (us:=fun i=>us.getD i undef) h3
      obtain ⟨r1,r2⟩:=fzL_sound (us:=fun i=>vs.getD i undef) h4
      exact .fn f _ _ us vs (by omega) (by omega) q2 r2
  | .p x,u,h=>by simp only [fzA];exact h.mono (hM.le (fr_kill true ho rfl))
  | .rp cs o,u,h=>by simp only [fzA];exact h.mono (hM.le (fr_kill true ho rfl))
  | .yld l,u,h=>by simp only [fzA];exact h.mono (hM.le (fr_kill true ho rfl))
  | .kb b,u,h=>by simp only [fzA];exact h.mono (hM.le (fr_kill true ho rfl))
  | .mp i,u,h=>by simp only [fzA];exact h.mono (hM.le (fr_kill true ho rfl))
  | .any,u,h=>by simp only [fzA];exact .any _
theorem fzL_sound:∀ {l:List AV} {us:Nat→Value},(∀ i (h:i<l.length),Rep C M w l[i] (us i))→(fzL id n cs l).length=l.length∧∀ i (h:i<(fzL id n cs l).length),Rep (C.close id true) (setAt M id (some .dead)) w (fzL id n cs l)[i] (us i)
  | [],_,_=>⟨fzL_len ..,  fun i h=>by simp [fzL] at h⟩
  | x::r,us,h=>by
    refine ⟨fzL_len ..,fun i hi => ?_⟩
    have:=hM
    have:=ho
    obtain ⟨_,q2⟩:=fzL_sound (l:=r) (us:=fun i=>us (i+1)) (fun i hi=>h (i+1) (by simpa using hi))
    have e:fzL id n cs (x::r)=fzA id n cs x::fzL id n cs r:=by simp only [fzL]
    simp only [e]
    cases i with
    | zero=>exact fzA_sound (h 0 (by simp))
    | succ i=>exact q2 i (by simpa [fzL_len] using hi)
end
end

def fzO(id n:Nat)(cs:List PV):Option AO→Option AO
  | some (.box ty l)=>some (.box ty (fzL id n cs l))
  | x=>x
def fz1(id:Nat)(st:St):Option St:=match rowAt st.m id with
  | some r=>some ⟨fzL id r.2.1 r.2.2 st.t,(setAt st.m id (some .dead)).map (fzO id r.2.1 r.2.2)⟩
  | none=>none

theorem map_fzO{id n:Nat}{cs:List PV}{m:Mem}{j:Nat}{o':AO}(h:(m.map (fzO id n cs))[j]? = some (some o')):∃ o,m[j]? = some (some o)∧fzO id n cs (some o)=some o':=by
  rw [List.getElem?_map] at h
  cases hm:m[j]? with
  | none=>rw [hm] at h;cases h
  | some x =>
    rw [hm] at h
    cases x with
    | none=>simp [fzO] at h
    | some o=>exact ⟨o,rfl,by simpa using h⟩
theorem fzO_row{id n:Nat}{cs:List PV}{o:AO}{ty k:Nat}{ds:List PV}(h:fzO id n cs (some o)=some (.row ty k ds)):o = .row ty k ds:=by cases o <;> simp [fzO] at h ⊢;exact h
theorem fzO_live{id n:Nat}{cs:List PV}{o o':AO}(h:fzO id n cs (some o)=some o'):o'.live=o.live:=by cases o <;> (simp [fzO] at h;subst h;rfl)

theorem fz1_sound{id:Nat}{st st':St}{a:Act}(hf:fz1 id st=some st')(hs:Sim P C0 M0 w0 st a w):Sim P C0 M0 w0 st' a w:=by
  obtain ⟨C,hS,hM,hF,hD⟩:=hs
  unfold fz1 at hf
  split at hf
  · rename_i r hr
    cases hf
    have ho:=rowAt_inv hr
    have hk:=fr_kill (C:=C) (w:=w) true ho rfl
    have hm:=mem_kill hM true ho rfl
    have hL:Le (C.close id true) (C.close id true) (setAt st.m id (some .dead)) ((setAt st.m id (some .dead)).map (fzO id r.2.1 r.2.2)) w w:=by
      refine ⟨fun i o h => ?_,fun i o h ty n cs hm => ?_,fun i o h o' hm hl => ?_,fun _ h=>h,fun _ _=>rfl⟩
      · rw [List.getElem?_map,h]
        cases o <;> exact ⟨_,rfl⟩
      · obtain ⟨o2,h2,h3⟩:=map_fzO hm
        rw [fzO_row h3] at h2
        exact ⟨_,h2⟩
      · obtain ⟨o2,h2,h3⟩:=map_fzO hm
        rw [h] at h2;cases h2
        exact ⟨by rw [← fzO_live h3];exact hl,rfl,rfl⟩
    have hf2:Fr (C.close id true) (setAt st.m id (some .dead)) w (C.close id true) ((setAt st.m id (some .dead)).map (fzO id r.2.1 r.2.2)) w:=by
      refine ⟨rfl,rfl,rfl,Nat.le_refl _,fun _ _ _=>rfl,fun i o h=>⟨hL.ids i o h,rfl,rfl⟩,hL.row,fun i o h o' hm hl=>(hL.liv i o h o' hm hl).1,fun i o b h hl hb => ?_,fun _ h=>h,fun _ h => .inl h⟩
      obtain ⟨o2,h2,h3⟩:=map_fzO h
      exact .inr ⟨i,o2,h2,by rw [← fzO_live h3];exact hl,hb⟩
    refine ⟨C.close id true,⟨?_,fun i hi => ?_⟩,⟨fun i ty n cs h => ?_,fun i ty cs h => ?_,fun i es cl h => ?_,fun i i' o1 o2 b h1 l1 h2 l2 => ?_,fun i o b h hl => ?_,hm.Fs,fun i o b h hl => ?_⟩,(hF.trans hk).trans hf2,(hD.fr hM hk).fr hm hf2⟩
    · rw [fzL_len];exact hS.size
    · exact ((fzL_sound hM ho hS.rep).2 i hi).mono hL
    · obtain ⟨o2,h2,h3⟩:=map_fzO h
      rw [fzO_row h3] at h2
      exact hm.row _ _ _ _ h2
    · obtain ⟨o2,h2,h3⟩:=map_fzO h
      cases o2 with
      | box ty' l =>
        simp only [fzO,Option.some.injEq,AO.box.injEq] at h3
        obtain ⟨rfl,rfl⟩:=h3
        have hne:i≠id:=fun e=>by
          subst e
          rw [setAt_same] at h2;cases h2
        obtain ⟨b,arr,q0,q1,q2,q3,q4⟩:=hM.box _ _ _ ((setAt_other st.m id i _ _ (Ne.symm hne)).1 h2)
        obtain ⟨r1,r2⟩:=fzL_sound hM ho (us:=fun j=>arr.getD j undef) q3
        exact ⟨b,arr,q0,q1,by rw [r1];exact q2,fun j hj=>(r2 j hj).mono hL,fun j hj=>q4 j (by rw [r1] at hj;exact hj)⟩
      | row=>simp [fzO] at h3
      | mp=>simp [fzO] at h3
      | dead=>simp [fzO] at h3
    · obtain ⟨o2,h2,h3⟩:=map_fzO h
      have:o2 = .mp es cl:=by cases o2 <;> simp [fzO] at h3 ⊢;exact h3
      subst this
      obtain ⟨b,arr,q0,q1,q2,q3⟩:=hm.mp _ _ _ h2
      refine ⟨b,arr,q0,q1,q2,fun j hj => ?_⟩
      obtain ⟨en,r1,r2,r3,r4⟩:=q3 j hj
      exact ⟨en,r1,r2,r3,r4.mono hL.F hL.fz⟩
    · obtain ⟨o3,h3,h4⟩:=map_fzO h1
      obtain ⟨o5,h5,h6⟩:=map_fzO h2
      exact hm.inj i i' o3 o5 b h3 (by rw [← fzO_live h4];exact l1) h5 (by rw [← fzO_live h6];exact l2)
    · obtain ⟨o3,h3,h4⟩:=map_fzO h
      exact hm.nF i o3 b h3 (by rw [← fzO_live h4];exact hl)
    · obtain ⟨o3,h3,h4⟩:=map_fzO h
      exact hm.lt i o3 b h3 (by rw [← fzO_live h4];exact hl)
  · cases hf

def forget:List Nat→List AV→List AV
  | [],l=>l
  | i::r,l=>forget r (l.set i .any)
theorem forget_slots:∀ (g:List Nat) {ts:List AV} {us:Array Value},Slots C M w ts us→Slots C M w (forget g ts) us
  | [],_,_,h=>h
  | i::r,ts,us,h=>by
    refine forget_slots r ⟨by simpa using h.size,fun j hj => ?_⟩
    simp only [List.length_set] at hj
    rw [List.getElem_set]
    split
    · exact .any _
    · exact h.rep j hj
theorem forget_sound(g:List Nat){st:St}{a:Act}(hs:Sim P C0 M0 w0 st a w):Sim P C0 M0 w0 ⟨forget g st.t,st.m⟩ a w:=by
  obtain ⟨C,hS,hM,hF,hD⟩:=hs
  exact ⟨C,forget_slots g hS,hM,hF,hD⟩
end
section
variable {P:Program} {T:TT} {E:Env} {C C0:Cx} {M M0:Mem} {w w0:World}

def idx:List Nat→Nat→Nat→Option Nat
  | [],_,_=>none
  | j::r,i,n=>match Nat.beq j i with
    | true=>some n
    | false=>idx r i (n+1)
def rnI(k:Nat)(ids:List Nat)(i:Nat):Option Nat:=match Nat.blt i k with
  | true=>some i
  | false=>idx ids i k
mutual
def mpA(f:Nat→Option Nat):AV→Option AV
  | .own i=>(f i).map .own
  | .arr i off n=>(f i).map fun j => .arr j off n
  | .ptr i off=>(f i).map fun j => .ptr j off
  | .mp i=>(f i).map .mp
  | .agg l=>(mpL f l).map .agg
  | .tup l=>(mpL f l).map .tup
  | .fn g a b=>match mpL f a with
    | some a'=>(mpL f b).map fun b' => .fn g a' b'
    | none=>none
  | .p x=>some (.p x)
  | .rp cs o=>some (.rp cs o)
  | .yld l=>some (.yld l)
  | .kb b=>some (.kb b)
  | .any=>some .any
def mpL(f:Nat→Option Nat):List AV→Option (List AV)
  | []=>some []
  | x::r=>match mpA f x with
    | some y=>(mpL f r).map (y :: ·)
    | none=>none
end
def mpO(f:Nat→Option Nat):AO→Option AO
  | .row ty n cs=>some (.row ty n cs)
  | .box ty l=>(mpL f l).map (.box ty ·)
  | .mp es cl=>some (.mp es cl)
  | .dead=>some .dead
def mpM(f:Nat→Option Nat):Mem→Option Mem
  | []=>some []
  | none::r=>(mpM f r).map (none :: ·)
  | some o::r=>match mpO f o with
    | some o'=>(mpM f r).map (some o' :: ·)
    | none=>none
abbrev rnL(k:Nat)(ids:List Nat):=mpL (rnI k ids)
abbrev rnM(k:Nat)(ids:List Nat):=mpM (rnI k ids)
def at?(m:Mem)(i:Nat):Option AO:=objAt m i
def distinct(k:Nat):List Nat→Bool
  | []=>true
  | i::r=>match Nat.ble k i with
    | true=>match r.all (fun j => !Nat.beq j i) with
      | true=>distinct k r
      | false=>false
    | false=>false
def firsts(m:Mem):Nat→Nat→Mem
  | 0,_=>[]
  | k+1,i=>at? m i::firsts m k (i+1)
def pick(k:Nat)(ids:List Nat)(st:St):Option St:=match distinct k ids with
  | true=>match rnL k ids st.t with
    | some t=>(rnM k ids (firsts st.m k 0++ids.map (at? st.m))).map (⟨t,·⟩)
    | none=>none
  | false=>none

theorem idx_spec:∀ (ids:List Nat) (i n j:Nat),idx ids i n=some j→n≤j∧ids[j-n]? = some i
  | [],i,n,j,h=>by cases h
  | a::r,i,n,j,h=>by
    unfold idx at h
    split at h
    · rename_i hb
      cases h
      exact ⟨Nat.le_refl _,by rw [Nat.sub_self];simp [Nat.eq_of_beq_eq_true hb]⟩
    · obtain ⟨h1,h2⟩:=idx_spec r i (n+1) j h
      refine ⟨by omega,?_⟩
      rw [show j-n=(j-(n+1))+1 by omega]
      simpa using h2
theorem distinct_spec{k:Nat}:∀ {ids:List Nat},distinct k ids=true→(∀ i∈ids,k≤i)∧ids.Nodup
  | [],_=>⟨by simp,.nil⟩
  | a::r,h=>by
    unfold distinct at h
    split at h
    · rename_i h1
      split at h
      · rename_i h2
        obtain ⟨h3,h4⟩:=distinct_spec h
        refine ⟨fun i hi => ?_,?_⟩
        · rcases List.mem_cons.1 hi with rfl | hi
          · exact Nat.le_of_ble_eq_true h1
          · exact h3 i hi
        · refine List.nodup_cons.2 ⟨fun hm => ?_,h4⟩
          have:=List.all_eq_true.1 h2 a hm
          simp at this
      · cases h
    · cases h
theorem firsts_at(m:Mem):∀ (k i j:Nat),j<k→(firsts m k i)[j]? = some (objAt m (i+j))
  | 0,i,j,h=>by omega
  | k+1,i,j,h=>by
    unfold firsts
    cases j with
    | zero=>simp [at?]
    | succ j =>
      have:=firsts_at m k (i+1) j (by omega)
      rw [List.getElem?_cons_succ,this,show i+1+j=i+(j+1) by omega]
theorem firsts_len(m:Mem):∀ (k i:Nat),(firsts m k i).length=k
  | 0,_=>rfl
  | k+1,i=>by simp [firsts,firsts_len m k]

def srcI(k:Nat)(ids:List Nat)(j:Nat):Option Nat:=if j<k then some j else ids[j-k]?
theorem rnI_src{k:Nat}{ids:List Nat}{i j:Nat}(h:rnI k ids i=some j):srcI k ids j=some i:=by
  unfold rnI at h
  split at h
  · rename_i hb
    cases h
    have:i<k:=by simpa [Nat.blt_eq] using hb
    simp [srcI,this]
  · obtain ⟨h1,h2⟩:=idx_spec _ _ _ _ h
    simp [srcI,Nat.not_lt.2 h1,h2]
theorem src_inj{k:Nat}{ids:List Nat}(hd:distinct k ids=true){j j' i:Nat}(h:srcI k ids j=some i)(h':srcI k ids j'=some i):j=j':=by
  obtain ⟨h1,h2⟩:=distinct_spec hd
  unfold srcI at h h'
  split at h <;> split at h'
  · cases h;cases h';rfl
  · cases h
    have:=h1 _ (List.mem_of_getElem? h')
    omega
  · cases h'
    have:=h1 _ (List.mem_of_getElem? h)
    omega
  · obtain ⟨q1,q2⟩:=List.getElem?_eq_some_iff.1 h
    obtain ⟨q3,q4⟩:=List.getElem?_eq_some_iff.1 h'
    have hp:=List.pairwise_iff_getElem.1 h2
    rcases Nat.lt_trichotomy (j-k) (j'-k) with hl | hl | hl
    · exact absurd (q2.trans q4.symm) (hp _ _ q1 q3 hl)
    · omega
    · exact absurd (q4.trans q2.symm) (hp _ _ q3 q1 hl)

def Cx.rn(C:Cx)(k:Nat)(ids:List Nat):Cx:={ ι:=fun j=>(srcI k ids j).bind C.ι,κ:=fun j=>match srcI k ids j with | some i=>C.κ i | none=>0,F:=C.F }

theorem mpM_at{f:Nat→Option Nat}:∀ {m m':Mem},mpM f m=some m'→m'.length=m.length∧(∀ (j:Nat) (o':AO),m'[j]? = some (some o')→∃ o,m[j]? = some (some o)∧mpO f o=some o')∧(∀ (j:Nat) (o:AO),m[j]? = some (some o)→∃ o',m'[j]? = some (some o')∧mpO f o=some o')
  | [],m',h=>by cases h;exact ⟨rfl,fun j o h=>by simp at h,fun j o h=>by simp at h⟩
  | none::r,m',h=>by
    unfold mpM at h
    cases hr:mpM f r with
    | none=>rw [hr] at h;cases h
    | some r' =>
      rw [hr] at h;cases h
      obtain ⟨h1,h2,h3⟩:=mpM_at hr
      refine ⟨by simp [h1],fun j o hj => ?_,fun j o hj => ?_⟩
      · cases j with
        | zero=>simp at hj
        | succ j=>exact h2 j o (by simpa using hj)
      · cases j with
        | zero=>simp at hj
        | succ j=>exact h3 j o (by simpa using hj)
  | some o::r,m',h=>by
    unfold mpM at h
    split at h
    · rename_i o' ho'
      cases hr:mpM f r with
      | none=>rw [hr] at h;cases h
      | some r' =>
        rw [hr] at h;cases h
        obtain ⟨h1,h2,h3⟩:=mpM_at hr
        refine ⟨by simp [h1],fun j o hj => ?_,fun j o hj => ?_⟩
        · cases j with
          | zero=>simp at hj;subst hj;exact ⟨_,rfl,ho'⟩
          | succ j=>exact h2 j o (by simpa using hj)
        · cases j with
          | zero=>simp at hj;subst hj;exact ⟨_,rfl,ho'⟩
          | succ j=>exact h3 j o (by simpa using hj)
    · cases h

theorem mpO_live{f:Nat→Option Nat}{o o':AO}(h:mpO f o=some o'):o'.live=o.live:=by
  cases o <;> simp only [mpO,Option.map_eq_some_iff,Option.some.injEq] at h
  · subst h;rfl
  · obtain ⟨_,_,rfl⟩:=h;rfl
  · subst h;rfl
  · subst h;rfl
theorem mpO_row{f:Nat→Option Nat}{o:AO}{ty n:Nat}{cs:List PV}(h:mpO f o=some (.row ty n cs)):o = .row ty n cs:=by
  cases o <;> simp only [mpO,Option.map_eq_some_iff,Option.some.injEq] at h
  · exact h
  · obtain ⟨_,_,h⟩:=h;cases h
  · cases h
  · cases h
structure Mapd (f:Nat→Option Nat) (C C':Cx) (M M':Mem):Prop where
  bk:∀ (i j:Nat) (o':AO),f i=some j→M'[j]? = some (some o')→∃ o,M[i]? = some (some o)∧mpO f o=some o'
  fw:∀ (i j:Nat) (o:AO),f i=some j→M[i]? = some (some o)→∃ o',M'[j]? = some (some o')∧mpO f o=some o'
  at_:∀ i j,f i=some j→C'.ι j=C.ι i∧C'.κ j=C.κ i
  F:∀ b,C.F b→C'.F b

section
variable {f:Nat→Option Nat} {C':Cx} {M':Mem} (hm:Mapd f C C' M M')
include hm
set_option linter.unusedSectionVars false in
mutual
theorem mpA_sound:∀ {x y:AV} {u:Value},Rep C M w x u→mpA f x=some y→Rep C' M' w y u
  | .own i,y,u,h,hr=>by
    simp only [mpA,Option.map_eq_some_iff] at hr
    obtain ⟨j,hj,rfl⟩:=hr
    cases h with
    | own _ u h0 ha h =>
      obtain ⟨o,ho⟩:=ha
      obtain ⟨o',ho',_⟩:=hm.fw _ _ _ hj ho
      refine .own j u h0 ⟨o',ho'⟩ fun ty n cs hx => ?_
      obtain ⟨o2,e2,e3⟩:=hm.bk _ _ _ hj hx
      rw [mpO_row e3] at e2
      rw [(hm.at_ _ _ hj).1,(hm.at_ _ _ hj).2]
      exact h _ _ _ e2
  | .arr i off n,y,u,h,hr=>by
    simp only [mpA,Option.map_eq_some_iff] at hr
    obtain ⟨j,hj,rfl⟩:=hr
    cases h with
    | arr _ _ _ u h0 ha h =>
      obtain ⟨o,ho⟩:=ha
      obtain ⟨o',ho',_⟩:=hm.fw _ _ _ hj ho
      refine .arr j off n u h0 ⟨o',ho'⟩ fun o3 hx hl => ?_
      obtain ⟨o2,e2,e3⟩:=hm.bk _ _ _ hj hx
      rw [(hm.at_ _ _ hj).1]
      exact h _ e2 (by rw [← mpO_live e3];exact hl)
  | .ptr i off,y,u,h,hr=>by
    simp only [mpA,Option.map_eq_some_iff] at hr
    obtain ⟨j,hj,rfl⟩:=hr
    cases h with
    | ptr _ _ u h0 ha h =>
      obtain ⟨o,ho⟩:=ha
      obtain ⟨o',ho',_⟩:=hm.fw _ _ _ hj ho
      refine .ptr j off u h0 ⟨o',ho'⟩ fun o3 hx hl => ?_
      obtain ⟨o2,e2,e3⟩:=hm.bk _ _ _ hj hx
      rw [(hm.at_ _ _ hj).1]
      exact h _ e2 (by rw [← mpO_live e3];exact hl)
  | .mp i,y,u,h,hr=>by
    simp only [mpA,Option.map_eq_some_iff] at hr
    obtain ⟨j,hj,rfl⟩:=hr
    cases h with
    | mp _ u h0 ha h =>
      obtain ⟨o,ho⟩:=ha
      obtain ⟨o',ho',_⟩:=hm.fw _ _ _ hj ho
      refine .mp j u h0 ⟨o',ho'⟩ fun o3 hx hl => ?_
      obtain ⟨o2,e2,e3⟩:=hm.bk _ _ _ hj hx
      rw [(hm.at_ _ _ hj).1]
      exact h _ e2 (by rw [← mpO_live e3];exact hl)
  | .agg l,y,u,h,hr=>by
    simp only [mpA,Option.map_eq_some_iff] at hr
    obtain ⟨l',hl,rfl⟩:=hr
    cases h with
    | agg _ vs h0 h1 h4 =>
      obtain ⟨q1,q2⟩:=mpL_sound (us:=fun i=>vs.getD i undef) h4 hl
      exact .agg _ _ (fun i hi=>h0 i (by omega)) (by omega) q2
  | .tup l,y,u,h,hr=>by
    simp only [mpA,Option.map_eq_some_iff] at hr
    obtain ⟨l',hl,rfl⟩:=hr
    cases h with
    | tup _ vs h1 h4 =>
      obtain ⟨q1,q2⟩:=mpL_sound (us:=fun i=>vs.getD i undef) h4 hl
      exact .tup _ _ (by omega) q2
  | .fn g a b,y,u,h,hr=>by
    simp only [mpA] at hr
    split at hr
    · rename_i a' ha
      simp only [Option.map_eq_some_iff] at hr
      obtain ⟨b',hb,rfl⟩:=hr
      cases h with
      | fn _ _ _ us vs h1 h4 h5 h6 =>
        obtain ⟨q1,q2⟩:=mpL_sound (us:=fun i=>us.getD i undef) h5 ha
        obtain ⟨r1,r2⟩:=mpL_sound (us:=fun i=>vs.getD i undef) h6 hb
        exact .fn g _ _ us vs (by omega) (by omega) q2 r2
    · cases hr
  | .p x,y,u,h,hr=>by simp only [mpA] at hr;cases hr;cases h with | p _ _ h=>exact .p _ _ (h.mono hm.F (fun _ _=>rfl))
  | .rp cs o,y,u,h,hr=>by
    simp only [mpA] at hr;cases hr
    cases h with | rp _ _ b o us h1 h2 h3=>exact .rp cs _ b o us (fun i hi=>⟨hm.F _ (h1 i hi).1,(h1 i hi).2⟩) (fun i hi=>(h2 i hi).mono hm.F (fun _ _=>rfl)) h3
  | .yld l,y,u,h,hr=>by simp only [mpA] at hr;cases hr;cases h;exact .yld _
  | .kb b,y,u,h,hr=>by simp only [mpA] at hr;cases hr;cases h;exact .kb _
  | .any,y,u,h,hr=>by simp only [mpA] at hr;cases hr;exact .any _
theorem mpL_sound:∀ {l ys:List AV} {us:Nat→Value},(∀ i (h:i<l.length),Rep C M w l[i] (us i))→mpL f l=some ys→ys.length=l.length∧∀ i (h:i<ys.length),Rep C' M' w ys[i] (us i)
  | [],_,_,_,hr=>by simp only [mpL] at hr;cases hr;exact ⟨rfl,fun i h=>by simp at h⟩
  | x::r,ys,us,h,hr=>by
    simp only [mpL] at hr
    split at hr
    · rename_i y hy
      simp only [Option.map_eq_some_iff] at hr
      obtain ⟨r',hr',rfl⟩:=hr
      obtain ⟨q1,q2⟩:=mpL_sound (us:=fun i=>us (i+1)) (fun i hi=>h (i+1) (by simpa using hi)) hr'
      refine ⟨by simp [q1],fun i hi => ?_⟩
      cases i with
      | zero=>exact mpA_sound (h 0 (by simp)) hy
      | succ i=>exact q2 i (by simpa using hi)
    · cases hr
end
end

theorem pick_mem{k:Nat}{ids:List Nat}{M':Mem}(hM:MemOK P C M w)(hd:distinct k ids=true)(hm':rnM k ids (firsts M k 0++ids.map (at? M))=some M') :
    MemOK P (C.rn k ids) M' w∧Mapd (rnI k ids) C (C.rn k ids) M M'∧∀ (j:Nat) (o':AO),M'[j]? = some (some o')→∃ i o,srcI k ids j=some i∧M[i]? = some (some o)∧mpO (rnI k ids) o=some o':=by
  obtain ⟨g1,g2,g3⟩:=mpM_at hm'
  have hat:∀ (i j:Nat) (o:AO),srcI k ids j=some i→((firsts M k 0++ids.map (at? M))[j]? = some (some o)↔M[i]? = some (some o)):=fun i j o hs=>by
    unfold srcI at hs
    split at hs
    · rename_i hj
      cases hs
      rw [List.getElem?_append_left (by rw [firsts_len];exact hj),firsts_at _ _ _ _ hj,Nat.zero_add,Option.some.injEq,objAt_iff]
    · rename_i hj
      rw [List.getElem?_append_right (by rw [firsts_len];omega),firsts_len,List.getElem?_map,hs,Option.map_some,Option.some.injEq]
      exact objAt_iff
  have hsrc:∀ (j:Nat) (o:AO),(firsts M k 0++ids.map (at? M))[j]? = some (some o)→∃ i,srcI k ids j=some i:=fun j o hj=>by
    unfold srcI
    split
    · exact ⟨_,rfl⟩
    · obtain ⟨hl,_⟩:=List.getElem?_eq_some_iff.1 hj
      rw [List.length_append,firsts_len,List.length_map] at hl
      exact ⟨_,List.getElem?_eq_getElem (by omega)⟩
  have h2:∀ (j:Nat) (o':AO),M'[j]? = some (some o')→∃ i o,srcI k ids j=some i∧M[i]? = some (some o)∧mpO (rnI k ids) o=some o':=fun j o' hj=>by
    obtain ⟨o,q1,q2⟩:=g2 j o' hj
    obtain ⟨i,hi⟩:=hsrc j o q1
    exact ⟨i,o,hi,(hat i j o hi).1 q1,q2⟩
  have hi:∀ j i,srcI k ids j=some i→(C.rn k ids).ι j=C.ι i∧(C.rn k ids).κ j=C.κ i:=fun j i h=>by simp [Cx.rn,h]
  have hmp:Mapd (rnI k ids) C (C.rn k ids) M M':=⟨fun i j o' hf hj=>by
    obtain ⟨i',o,q1,q2,q3⟩:=h2 j o' hj
    rw [rnI_src hf] at q1;cases q1
    exact ⟨o,q2,q3⟩,fun i j o hf ho=>g3 j o ((hat i j o (rnI_src hf)).2 ho),fun i j hf=>hi j i (rnI_src hf),fun _ h=>h⟩
  refine ⟨⟨fun j ty n cs h => ?_,fun j ty cs h => ?_,fun j es cl h => ?_,fun j j' o1 o2 b q1 l1 q2 l2 e1 e2 => ?_,fun j o b h hl hb => ?_,hM.Fs,fun j o b h hl hb => ?_⟩,hmp,h2⟩
  · obtain ⟨i,o,q1,q2,q3⟩:=h2 _ _ h
    rw [mpO_row q3] at q2
    obtain ⟨r1,r2⟩:=hi j i q1
    rw [r1,r2]
    exact hM.row _ _ _ _ q2
  · obtain ⟨i,o,q1,q2,q3⟩:=h2 _ _ h
    obtain ⟨r1,r2⟩:=hi j i q1
    cases o with
    | box ty' l =>
      simp only [mpO,Option.map_eq_some_iff] at q3
      obtain ⟨l',hl',e⟩:=q3
      cases e
      obtain ⟨b,arr,p0,p1,p2,p3,p4⟩:=hM.box _ _ _ q2
      obtain ⟨n1,n2⟩:=mpL_sound hmp (w:=w) (us:=fun j=>arr.getD j undef) p3 hl'
      exact ⟨b,arr,by rw [r1];exact p0,p1,by omega,n2,fun j hj=>p4 j (by omega)⟩
    | row=>simp [mpO] at q3
    | mp=>simp [mpO] at q3
    | dead=>simp [mpO] at q3
  · obtain ⟨i,o,q1,q2,q3⟩:=h2 _ _ h
    obtain ⟨r1,r2⟩:=hi j i q1
    cases o with
    | mp es' cl' =>
      simp only [mpO,Option.some.injEq] at q3
      cases q3
      obtain ⟨b,arr,p0,p1,p2,p3⟩:=hM.mp _ _ _ q2
      exact ⟨b,arr,by rw [r1];exact p0,p1,p2,p3⟩
    | row=>simp [mpO] at q3
    | box=>simp [mpO] at q3
    | dead=>simp [mpO] at q3
  · obtain ⟨i,o,q3,q4,q5⟩:=h2 _ _ q1
    obtain ⟨i',o',q6,q7,q8⟩:=h2 _ _ q2
    rw [(hi _ _ q3).1] at e1
    rw [(hi _ _ q6).1] at e2
    have:=hM.inj i i' o o' b q4 (by rw [← mpO_live q5];exact l1) q7 (by rw [← mpO_live q8];exact l2) e1 e2
    subst this
    exact src_inj hd q3 q6
  · obtain ⟨i,o',q3,q4,q5⟩:=h2 _ _ h
    rw [(hi _ _ q3).1] at hb
    exact hM.nF i o' b q4 (by rw [← mpO_live q5];exact hl) hb
  · obtain ⟨i,o',q3,q4,q5⟩:=h2 _ _ h
    rw [(hi _ _ q3).1] at hb
    exact hM.lt i o' b q4 (by rw [← mpO_live q5];exact hl) hb

theorem pick_sound{k:Nat}{ids:List Nat}{st st':St}{a:Act}(hk:M0.length≤k)(hp:pick k ids st=some st')(hs:Sim P C0 M0 w0 st a w):Sim P C0 M0 w0 st' a w:=by
  obtain ⟨C,hS,hM,hF,hD⟩:=hs
  unfold pick at hp
  split at hp
  · rename_i hd
    split at hp
    · rename_i t ht
      simp only [Option.map_eq_some_iff] at hp
      obtain ⟨M',hm',rfl⟩:=hp
      obtain ⟨hM',hmp,h2⟩:=pick_mem hM hd hm'
      obtain ⟨t1,t2⟩:=mpL_sound hmp (w:=w) (us:=fun i=>a.tmps.getD i undef) hS.rep ht
      have hi:∀ j i,srcI k ids j=some i→(C.rn k ids).ι j=C.ι i∧(C.rn k ids).κ j=C.κ i:=fun j i h=>by simp [Cx.rn,h]
      have small:∀ (i:Nat) (o:AO),M0[i]? = some (some o)→srcI k ids i=some i∧rnI k ids i=some i:=fun i o h=>by
        obtain ⟨hl,_⟩:=List.getElem?_eq_some_iff.1 h
        have hik:i<k:=by omega
        have hb:Nat.blt i k=true:=by rw [Nat.blt_eq];exact hik
        exact ⟨by simp [srcI,hik],by simp only [rnI,hb]⟩
      refine ⟨C.rn k ids,⟨by rw [hS.size];exact t1.symm,t2⟩,hM',
        ⟨hF.os,hF.tape,hF.out,hF.size,hF.keep,fun i o h => ?_,fun i o h ty n cs hx => ?_,fun i o h o' hx hl => ?_,fun j o b h hl hb => ?_,hF.F1,hF.F2⟩,hD.1,fun p hp => ?_⟩
      · obtain ⟨⟨o',q1⟩,q2,q3⟩:=hF.ids i o h
        obtain ⟨o2,q4,_⟩:=hmp.fw i i o' (small i o h).2 q1
        obtain ⟨r1,r2⟩:=hi i i (small i o h).1
        exact ⟨⟨o2,q4⟩,r1.trans q2,r2.trans q3⟩
      · obtain ⟨i',o',q3,q4,q5⟩:=h2 _ _ hx
        rw [(small i o h).1] at q3;cases q3
        rw [mpO_row q5] at q4
        exact hF.row _ _ h _ _ _ q4
      · obtain ⟨i',o2,q3,q4,q5⟩:=h2 _ _ hx
        rw [(small i o h).1] at q3;cases q3
        exact hF.liv _ _ h _ q4 (by rw [← mpO_live q5];exact hl)
      · obtain ⟨i,o',q3,q4,q5⟩:=h2 _ _ h
        rw [(hi _ _ q3).1] at hb
        exact hF.new i o' b q4 (by rw [← mpO_live q5];exact hl) hb
      · obtain ⟨r1,r2,r3,r4,r5⟩:=hD.2 p hp
        refine ⟨r1,r2,r3,r4,fun j o h hl hb => ?_⟩
        obtain ⟨i,o',q3,q4,q5⟩:=h2 _ _ h
        rw [(hi _ _ q3).1] at hb
        exact r5 i o' q4 (by rw [← mpO_live q5];exact hl) hb
    · cases hp
  · cases hp

def fzAll:List Nat→St→Option St
  | [],st=>some st
  | i::r,st=>match fz1 i st with
    | some st'=>fzAll r st'
    | none=>none
def nlC(id off ty:Nat)(st:St):Option St:=match st.m[id]? with
  | some (some (.box bty cs))=>match cs[off]? with
    | some (.p (.v (.slice none 0 0)))=>match freeB st.m st.m.length with
      | true=>some ⟨st.t,setAt (setAt st.m st.m.length (some (.row ty 0 []))) id (some (.box bty (cs.set off (.own st.m.length))))⟩
      | false=>none
    | _=>none
  | _=>none
def nlS(i ty:Nat)(st:St):Option St:=match st.t[i]? with
  | some (.p (.v (.slice none 0 0)))=>match freeB st.m st.m.length with
    | true=>some ⟨st.t.set i (.own st.m.length),setAt st.m st.m.length (some (.row ty 0 []))⟩
    | false=>none
  | some (.kb b)=>some ⟨st.t.set i (.p (.v (.bool b))),st.m⟩
  | _=>none
def nl1(i ty:Nat)(st:St):Option St:=match Nat.ble 100000 i with
  | true=>nlC ((i-100000) / 1000) ((i-100000) % 1000) ty st
  | false=>nlS i ty st
def nlAll:List (Nat × Nat)→St→Option St
  | [],st=>some st
  | (i,ty)::r,st=>match nl1 i ty st with
    | some st'=>nlAll r st'
    | none=>none
def gh(k:Nat)(g:Gh)(st:St):Option St:=match fzAll g.fz st with
  | some st1=>match nlAll g.nl st1 with
    | some st2=>pick k g.ids ⟨forget g.fg st2.t,st2.m⟩
    | none=>none
  | none=>none
theorem box_told(hM:MemOK P C M w){id bty off:Nat}{cs:List AV}{x:AV}(hb:M[id]? = some (some (.box bty cs)))(hoff:off<cs.length)
    (hx:∀ u,Rep C M w cs[off] u→Rep C (setAt M id (some (.box bty (cs.set off x)))) w x u):MemOK P C (setAt M id (some (.box bty (cs.set off x)))) w∧Fr C M w C (setAt M id (some (.box bty (cs.set off x)))) w:=by
  have hold:∀ (i:Nat) (o:AO),i≠id→(setAt M id (some (.box bty (cs.set off x))))[i]? = some (some o)→M[i]? = some (some o):=fun i o h=>(setAt_other M id i _ o (fun e=>h e.symm)).1
  have hnew:∀ (o:AO),(setAt M id (some (.box bty (cs.set off x))))[id]? = some (some o)→o = .box bty (cs.set off x):=fun o h=>by rw [setAt_same] at h;cases h;rfl
  have hliv:∀ (i:Nat) (o:AO),(setAt M id (some (.box bty (cs.set off x))))[i]? = some (some o)→o.live=true→∃ o1,M[i]? = some (some o1)∧o1.live=true:=fun i o h hl=>by
    by_cases e:i=id
    · subst e;exact ⟨_,hb,rfl⟩
    · exact ⟨o,hold i o e h,hl⟩
  have f:Fr C M w C (setAt M id (some (.box bty (cs.set off x)))) w:=by
    refine ⟨rfl,rfl,rfl,Nat.le_refl _,fun _ _ _=>rfl,fun i o h=>⟨?_,rfl,rfl⟩,fun i o h ty n cs2 hm => ?_,fun i o h o' h' hl => ?_,fun i o b h hl hbb => ?_,fun b h=>h,fun b h => .inl h⟩
    · by_cases e:i=id
      · subst e;exact ⟨_,setAt_same ..⟩
      · exact ⟨o,(setAt_other M id i _ o (fun e'=>e e'.symm)).2 h⟩
    · by_cases e:i=id
      · subst e;cases hnew _ hm
      · exact ⟨cs2,hold i _ e hm⟩
    · obtain ⟨o1,q1,q2⟩:=hliv i o' h' hl
      rw [h] at q1;cases q1;exact q2
    · obtain ⟨o1,q1,q2⟩:=hliv i o h hl
      exact .inr ⟨i,o1,q1,q2,hbb⟩
  have hL:=hM.le f
  refine ⟨⟨fun i ty n cs2 hm => ?_,fun i ty cs2 hm => ?_,fun i es cl hm => ?_,fun i i' o1 o2 b hm hl hm' hl' h1 h2 => ?_,fun i o b hm hl hbb => ?_,hM.Fs,fun i o b hm hl hbb => ?_⟩,f⟩
  · by_cases e:i=id
    · subst e;cases hnew _ hm
    · exact hM.row _ _ _ _ (hold i _ e hm)
  · by_cases e:i=id
    · subst e
      cases hnew _ hm
      obtain ⟨b,arr,q0,q1,q2,q3,q4⟩:=hM.box _ _ _ hb
      refine ⟨b,arr,q0,q1,by simpa using q2,fun j hj => ?_,fun j hj=>q4 j (by simpa using hj)⟩
      rw [List.getElem_set]
      split
      · rename_i e2;subst e2;exact hx _ (q3 _ hoff)
      · exact (q3 j (by simpa using hj)).mono hL
    · obtain ⟨b,arr,q0,q1,q2,q3,q4⟩:=hM.box _ _ _ (hold i _ e hm)
      exact ⟨b,arr,q0,q1,q2,fun j hj=>(q3 j hj).mono hL,q4⟩
  · by_cases e:i=id
    · subst e;cases hnew _ hm
    · obtain ⟨b,arr,q0,q1,q2,q3⟩:=hM.mp _ _ _ (hold i _ e hm)
      refine ⟨b,arr,q0,q1,q2,fun j hj => ?_⟩
      obtain ⟨en,r1,r2,r3,r4⟩:=q3 j hj
      exact ⟨en,r1,r2,r3,r4.mono hL.F hL.fz⟩
  · obtain ⟨x1,y1,z1⟩:=hliv i o1 hm hl
    obtain ⟨x2,y2,z2⟩:=hliv i' o2 hm' hl'
    exact hM.inj _ _ _ _ _ y1 z1 y2 z2 h1 h2
  · obtain ⟨x1,y1,z1⟩:=hliv i o hm hl
    exact hM.nF _ _ _ y1 z1 hbb
  · obtain ⟨x1,y1,z1⟩:=hliv i o hm hl
    exact hM.lt _ _ _ y1 z1 hbb
theorem nlC_sound{id off ty:Nat}{st st':St}{a:Act}(h:nlC id off ty st=some st')(hs:Sim P C0 M0 w0 st a w):Sim P C0 M0 w0 st' a w:=by
  obtain ⟨C,hS,hM,hF,hD⟩:=hs
  unfold nlC at h
  split at h
  · rename_i bty cs hi
    split at h
    · rename_i hc
      split at h
      · rename_i hb
        cases h
        have hf:=freeB_inv hb
        have f:=fr_none (C:=C) (w:=w) (ty:=ty) hf
        have hM1:=mem_none (ty:=ty) hM hf
        have hne:id≠st.m.length:=fun e=>hf _ (e ▸ hi)
        have hi1:(setAt st.m st.m.length (some (.row ty 0 [])))[id]? = some (some (.box bty cs)):=(setAt_other st.m st.m.length id _ _ (fun e=>hne e.symm)).2 hi
        obtain ⟨hoff,hcv⟩:=List.getElem?_eq_some_iff.1 hc
        have hnw:(setAt (setAt st.m st.m.length (some (.row ty 0 []))) id (some (.box bty (cs.set off (.own st.m.length)))))[st.m.length]? = some (some (.row ty 0 [])):=(setAt_other _ id st.m.length _ _ hne).2 (setAt_same ..)
        obtain ⟨hM2,f2⟩:=box_told hM1 hi1 hoff (x := .own st.m.length) (fun u hu=>by
          rw [hcv] at hu
          cases hu with
          | p _ _ h =>
            cases h
            exact .own _ _ rfl ⟨_,hnw⟩ fun ty n cs h=>by rw [hnw] at h;cases h;exact .inl ⟨rfl,by simp [Cx.nil],rfl⟩)
        exact ⟨C.nil st.m.length,(hS.le (hM.le f)).le (hM1.le f2),hM2,(hF.trans f).trans f2,hD.fr hM (f.trans f2)⟩
      · cases h
    · cases h
  · cases h
theorem nlS_sound{i ty:Nat}{st st':St}{a:Act}(h:nlS i ty st=some st')(hs:Sim P C0 M0 w0 st a w):Sim P C0 M0 w0 st' a w:=by
  obtain ⟨C,hS,hM,hF,hD⟩:=hs
  unfold nlS at h
  split at h
  · rename_i hi
    split at h
    · rename_i hb
      cases h
      have hf:=freeB_inv hb
      have f:=fr_none (C:=C) (w:=w) (ty:=ty) hf
      have hL:=hM.le f
      refine ⟨C.nil st.m.length,⟨by simpa using hS.size,fun j hj => ?_⟩,mem_none hM hf,hF.trans f,hD.fr hM f⟩
      simp only [List.length_set] at hj
      rw [List.getElem_set]
      split
      · rename_i e
        subst e
        have hr:=hS.at hi
        generalize a.tmps.getD i undef=u at hr ⊢
        cases hr with
        | p _ _ h =>
          cases h
          exact .own _ _ rfl ⟨_,setAt_same ..⟩ fun ty n cs h=>by rw [setAt_same] at h;cases h;exact .inl ⟨rfl,by simp [Cx.nil],rfl⟩
      · exact (hS.rep j hj).mono hL
    · cases h
  · rename_i b hi
    cases h
    refine ⟨C,⟨by simpa using hS.size,fun j hj => ?_⟩,hM,hF,hD⟩
    simp only [List.length_set] at hj
    rw [List.getElem_set]
    split
    · rename_i e
      subst e
      have hr:=hS.at hi
      generalize a.tmps.getD i undef=u at hr ⊢
      cases hr
      exact .p _ _ (.v _)
    · exact hS.rep j hj
  · cases h
theorem nl1_sound{i ty:Nat}{st st':St}{a:Act}(h:nl1 i ty st=some st')(hs:Sim P C0 M0 w0 st a w):Sim P C0 M0 w0 st' a w:=by
  unfold nl1 at h
  split at h
  · exact nlC_sound h hs
  · exact nlS_sound h hs
theorem nlAll_sound:∀ (l:List (Nat × Nat)) {st st':St} {a:Act},nlAll l st=some st'→Sim P C0 M0 w0 st a w→Sim P C0 M0 w0 st' a w
  | [],st,st',a,h,hs=>by cases h;exact hs
  | (i,ty)::r,st,st',a,h,hs=>by
    unfold nlAll at h
    split at h
    · rename_i h1
      exact nlAll_sound r h (nl1_sound h1 hs)
    · cases h
theorem fzAll_sound:∀ (l:List Nat) {st st':St} {a:Act},fzAll l st=some st'→Sim P C0 M0 w0 st a w→Sim P C0 M0 w0 st' a w
  | [],st,st',a,h,hs=>by cases h;exact hs
  | i::r,st,st',a,h,hs=>by
    unfold fzAll at h
    split at h
    · rename_i h1
      exact fzAll_sound r h (fz1_sound h1 hs)
    · cases h
theorem gh_sound{k:Nat}{g:Gh}{st st':St}{a:Act}(hk:M0.length≤k)(h:gh k g st=some st')(hs:Sim P C0 M0 w0 st a w):Sim P C0 M0 w0 st' a w:=by
  unfold gh at h
  split at h
  · rename_i h1
    split at h
    · rename_i h2
      exact pick_sound hk h (forget_sound g.fg (nlAll_sound _ h2 (fzAll_sound _ h1 hs)))
    · cases h
  · cases h
end
section
variable {P:Program} {T:TT} {E:Env} {C C0:Cx} {M M0:Mem} {w w0:World}

theorem mem_same(hM:MemOK P C M w){w1:World}(hw:w1.heap=w.heap):MemOK P C M w1∧Le C C M M w w1:=by
  have hL:Le C C M M w w1:=⟨fun _ o h=>⟨o,h⟩,fun _ _ _ _ _ cs h=>⟨cs,h⟩,fun _ o h o' h' hl=>by rw [h] at h';cases h';exact ⟨hl,rfl,rfl⟩,fun _ h=>h,fun _ _=>by rw [hw]⟩
  have hsz:w1.heap.size=w.heap.size:=by rw [hw]
  refine ⟨⟨fun i ty' n cs hm => ?_,fun i ty' cs hm => ?_,fun i es cl hm => ?_,hM.inj,hM.nF,fun b hb=>by rw [hsz];exact hM.Fs b hb,fun i x b hm hl hb=>by rw [hsz];exact hM.lt i x b hm hl hb⟩,hL⟩
  · rcases hM.row _ _ _ _ hm with h4 | ⟨b,arr,inf,q0,q1,q2,q3,q4,q5,q6,q7,q8⟩
    · exact .inl h4
    · exact .inr ⟨b,arr,inf,q0,by rw [hw];exact q1,q2,q3,q4,q5,q6,fun j hj=>(q7 j hj).mono hL.F hL.fz,q8⟩
  · obtain ⟨b,arr,q0,q1,q2,q3,q4⟩:=hM.box _ _ _ hm
    exact ⟨b,arr,q0,by rw [hw];exact q1,q2,fun j hj=>(q3 j hj).mono hL,q4⟩
  · obtain ⟨b,arr,q0,q1,q2,q3⟩:=hM.mp _ _ _ hm
    refine ⟨b,arr,q0,by rw [hw];exact q1,q2,fun j hj => ?_⟩
    obtain ⟨en,r1,r2,r3,r4⟩:=q3 j hj
    exact ⟨en,r1,r2,r3,r4.mono hL.F hL.fz⟩
theorem fr_same{w1:World}(hw:w1.heap=w.heap)(ho:w1.os=w.os)(ht:w1.tape=w.tape)(hu:w1.output=w.output):Fr C M w C M w1 :=
  ⟨ho,ht,hu,by rw [hw];exact Nat.le_refl _,fun b _ _=>by rw [hw],fun _ x h=>⟨⟨x,h⟩,rfl,rfl⟩,fun _ _ _ _ _ cs h=>⟨cs,h⟩,fun _ o h o' h' hl=>by rw [h] at h';cases h';exact hl,fun i x _ h hl hb => .inr ⟨i,x,h,hl,hb⟩,fun _ h=>h,fun _ h => .inl h⟩

theorem Sim.drawn{st:St}{a:Act}(h:Sim P C0 M0 w0 st a w)(k:Nat):Sim P C0 M0 w0 st a { w with drawn:=k }:=by
  obtain ⟨C,hS,hM,hF,hD⟩:=h
  obtain ⟨m,l⟩:=mem_same hM (w1:={ w with drawn:=k }) rfl
  exact ⟨C,hS.le l,m,hF.trans (fr_same rfl rfl rfl rfl),hD.fr hM (fr_same rfl rfl rfl rfl)⟩

def runR(P:Program)(T:TT)(E:Env)(ops:Array Oper)(draw:Bool)(st:St):Ask St:=match draw with
  | false=>runL P T E ops.toList ops.toList st
  | true=>do
    lift (if Region.lexB .any ops then some () else none)
    let r ← runD P T E ops.toList ops.toList st.m.length st
    lift (if apartL ops 0 r.1 then some () else none)
    pure r.2

def Ex.toExit:Ex→Exit
  | .normal => .normal
  | .ret => .ret
  | .exit id => .exit id

def loopN(body:St→Ask (Ex × St)):Nat→St→Ask (Ex × St)
  | 0,_=>fail
  | n+1,st=>do
    let r ← body st
    match r.1 with
    | .normal=>loopN body n r.2
    | e=>pure (e,r.2)

def isMapOp:Op→Bool
  | .makeMap _ _=>true
  | .lookup _ _ _ _=>true
  | .mapUpdate _ _ _ _=>true
  | _=>false
def nrf:Code→Bool
  | .region _ ops _=>ops.toList.all fun o => !isMapOp o.op
  | .seq a b=>nrf a && nrf b
  | .cond _ a b=>nrf a && nrf b
  | .block _ b=>nrf b
  | .loop b=>nrf b
  | .scope b=>nrf b
  | .rangeFunc _ _ _ _=>false
  | _=>true
def RoOK(ro:Option Nat)(c:Code):Prop:=ro=none∨nrf c=true
section
variable {ro:Option Nat} {a b:Code} {x:Operand} {id:Nat}
theorem RoOK.seq1(h:RoOK ro (.seq a b)):RoOK ro a:=h.imp (fun h=>h) fun h=>by unfold nrf at h;rw [Bool.and_eq_true] at h;exact h.1
theorem RoOK.seq2(h:RoOK ro (.seq a b)):RoOK ro b:=h.imp (fun h=>h) fun h=>by unfold nrf at h;rw [Bool.and_eq_true] at h;exact h.2
theorem RoOK.cond1(h:RoOK ro (.cond x a b)):RoOK ro a:=h.imp (fun h=>h) fun h=>by unfold nrf at h;rw [Bool.and_eq_true] at h;exact h.1
theorem RoOK.cond2(h:RoOK ro (.cond x a b)):RoOK ro b:=h.imp (fun h=>h) fun h=>by unfold nrf at h;rw [Bool.and_eq_true] at h;exact h.2
theorem RoOK.block(h:RoOK ro (.block id b)):RoOK ro b:=h
theorem RoOK.loop(h:RoOK ro (.loop b)):RoOK ro b:=h
theorem RoOK.scope(h:RoOK ro (.scope b)):RoOK ro b:=h
end

def CodeOK(P:Program)(k:Nat)(c:Code)(st:St)(e:Ex)(st':St):Prop:=∀ (C0:Cx) (M0:Mem) (w0:World) (a:Act) (w:World),M0.length≤k→Sim P C0 M0 w0 st a w→∀ (ro:Option Nat),RoOK ro c→∀ (n:Nat),c.wpIn (Fen ro) n P (fun e' a' w'=>e'=e.toExit∧Sim P C0 M0 w0 st' a' w') a w

def askN(P:Program)(k:Nat)(c:Code)(m:St→Ask (Ex × St))(st:St):Ask (Ex × St):=fun s=>match s.auto with
  | true=>m st s
  | false=>match s.o with
    | .k 0 g e st'::r=>match gh k g st with
      | some st1=>some ((e,st'),{ s with o:=r,obs:=CodeOK P k c st1 e st'::s.obs })
      | none=>none
    | .k (n+1) g e st'::r=>m st { s with o := .k n g e st'::r }
    | .g 0 g::r=>match gh k g st with
      | some st1=>m st1 { s with o:=r }
      | none=>none
    | .g (n+1) g::r=>m st { s with o := .g n g::r }
    | _=>m st s
def autoOnly{α:Type}(m:Ask α):Ask α:=fun s=>match s.auto with
  | true=>m s
  | false=>none

def runC(P:Program)(T:TT)(E:Env)(k fuel:Nat):Code→St→Ask (Ex × St)
  | .skip,st=>pure (.normal,st)
  | .region id ops d,st=>askN P k (.region id ops d) (fun st=>do let st' ← runR P T E ops d st;pure (.normal,st')) st
  | .seq a b,st=>askN P k (.seq a b) (fun st=>do
    let r ← runC P T E k fuel a st
    match r.1 with
    | .normal=>runC P T E k fuel b r.2
    | e=>pure (e,r.2)) st
  | .cond c a b,st=>askN P k (.cond c a b) (fun st=>do
    let x ← lift (ev st c)
    let d ← askC x
    match d with
    | true=>runC P T E k fuel a st
    | false=>runC P T E k fuel b st) st
  | .block id b,st=>askN P k (.block id b) (fun st=>do
    let r ← runC P T E k fuel b st
    match r.1 with
    | .exit i=>match Nat.beq i id with
      | true=>pure (.normal,r.2)
      | false=>pure (.exit i,r.2)
    | e=>pure (e,r.2)) st
  | .loop b,st=>askN P k (.loop b) (fun st=>autoOnly (loopN (fun st=>runC P T E k fuel b st) fuel st)) st
  | .exit id,st=>pure (.exit id,st)
  | .label _,st=>pure (.normal,st)
  | .scope b,st=>runC P T E k fuel b st
  | .ret,st=>pure (.ret,st)
  | c,st=>askN P k c (fun _=>fail) st

theorem CodeOK.pre{k:Nat}{c:Code}{st st1 st':St}{e:Ex}{g:Gh}(hg:gh k g st=some st1)(h:CodeOK P k c st1 e st'):CodeOK P k c st e st':=fun C0 M0 w0 a w hk hs ro hro n=>h C0 M0 w0 a w hk (gh_sound hk hg hs) ro hro n
theorem CodeOK.post{k:Nat}{c:Code}{st st1 st':St}{e:Ex}{g:Gh}(hg:gh k g st1=some st')(h:CodeOK P k c st e st1):CodeOK P k c st e st':=fun C0 M0 w0 a w hk hs ro hro n=>wpIn_mono (h C0 M0 w0 a w hk hs ro hro n) (fun _ _ _ hq=>⟨hq.1,gh_sound hk hg hq.2⟩)
theorem askN_sound{k:Nat}{c:Code}{m:St→Ask (Ex × St)}(hm:∀ {st st':St} {e:Ex} {s s':AS},m st s=some ((e,st'),s')→Good s'→CodeOK P k c st e st'){st st':St}{e:Ex}{s s':AS}(h:askN P k c m st s=some ((e,st'),s'))(g:Good s'):CodeOK P k c st e st':=by
  unfold askN at h
  cases ha:s.auto with
  | true=>rw [ha] at h;exact hm h g
  | false =>
    rw [ha] at h
    dsimp only at h
    split at h
    · split at h
      · rename_i hg
        cases h;exact (g.tail.1).pre hg
      · cases h
    · exact hm h g
    · split at h
      · rename_i hg
        exact (hm h g).pre hg
      · cases h
    · exact hm h g
    · exact hm h g
theorem mono_askN{k:Nat}{c:Code}{m:St→Ask (Ex × St)}(hm:∀ st,Mono (m st))(st:St):Mono (askN P k c m st):=fun s r s' h p hp=>by
  unfold askN at h
  cases ha:s.auto with
  | true=>rw [ha] at h;exact hm _ _ _ _ h p hp
  | false =>
    rw [ha] at h
    dsimp only at h
    split at h
    · split at h
      · cases h;exact List.mem_cons_of_mem _ hp
      · cases h
    · exact hm _ _ _ _ h p hp
    · split at h
      · exact hm _ _ _ _ h p hp
      · cases h
    · exact hm _ _ _ _ h p hp
    · exact hm _ _ _ _ h p hp
theorem mono_auto{α:Type}{m:Ask α}(hm:Mono m):Mono (autoOnly m):=fun s r s' h p hp=>by
  unfold autoOnly at h
  split at h
  · exact hm _ _ _ h p hp
  · cases h
theorem auto_inv{α:Type}{m:Ask α}{s s':AS}{r:α}(h:autoOnly m s=some (r,s')):m s=some (r,s'):=by
  unfold autoOnly at h
  split at h
  · exact h
  · cases h

theorem runR_sound(hT:∀ t i,T t=some i→tiOf P t=some i)(hE:EnvOK P E)(hm:P.follows .mixedOrders=true){id:Nat}{ops:Array Oper}{d:Bool}{st st':St}{s s':AS}(h:runR P T E ops d st s=some (st',s'))(g:Good s'){k:Nat}:CodeOK P k (.region id ops d) st .normal st':=by
  intro C0 M0 w0 a w _ hs ro hro n
  cases d with
  | false =>
    refine wpIn_region ?_
    have:=runL_sound hT hE ops.toList 0 (fun j=>by simp) h g C0 M0 w0 a w hs ro n (fun e' a' w'=>e'=Ex.normal.toExit∧Sim P C0 M0 w0 st' a' w') (fun a' w' h'=>⟨rfl,h'⟩)
    simpa using this
  | true =>
    obtain ⟨_,s1,h1,k1⟩:=ask_bind h
    obtain ⟨e1,rfl⟩:=ask_lift h1
    obtain ⟨r,s2,h2,k2⟩:=ask_bind k1
    obtain ⟨_,s3,h3,k3⟩:=ask_bind k2
    obtain ⟨e3,rfl⟩:=ask_lift h3
    obtain ⟨rfl,rfl⟩:=ask_pure k3
    obtain ⟨hB,_⟩:=ite_some e1
    obtain ⟨hA,_⟩:=ite_some e3
    obtain ⟨os,hfts,hlex⟩:=runD_lex ops.toList _ (fts:=r.1) (fin:=r.2) h2 g
    unfold Region.lexB at hB
    rw [Bool.and_eq_true] at hB
    have hlen:os.length=ops.toList.length:=by
      have:∀ {l:List Oper} {id:Nat} {st:St} {os:List Out1} {fin:St},LexR P T E ops.toList id l st os fin→os.length=l.length:=by
        intro l
        induction l with
        | nil=>intro id st os fin h;cases h;rfl
        | cons o l ih=>intro id st os fin h;cases h with | cons _ _ _ _ q os _ h hr=>simp [ih hr]
      exact this hlex
    have key:AnyR P T E ops.toList st.m.length (fun k=>os.getD k (.any,[],none)) r.2 ops.toList.length (Array.replicate ops.size false) st:=by
      refine AnyR.lex ops.toList 0 _ st os (fun j=>by simp) (fun j q hj=>by simp [List.getD_eq_getElem?_getD,hj]) (fun j hj=>absurd hj (Nat.not_lt_zero _)) (fun j oj hj hl => ?_) (fun i j _ hij hj => ?_) (by simpa using hB.2) (by simpa [ido] using hlex)
      · exfalso
        rcases Nat.lt_or_ge j ops.size with h' | h'
        · simp [h'] at hl
        · simp [Nat.not_lt.2 h'] at hl
      have hj2:j<os.length:=by
        rw [hlen]
        obtain ⟨o,ho⟩:=Option.isSome_iff_exists.1 hj
        exact (List.getElem?_eq_some_iff.1 ho).1
      have:=apartL_spec r.1 0 hA i j (ftOf os[i]) (ftOf os[j]) hij (by rw [hfts,List.getElem?_map,List.getElem?_eq_getElem (by omega)];rfl) (by rw [hfts,List.getElem?_map,List.getElem?_eq_getElem hj2];rfl)
      rw [Nat.zero_add,Nat.zero_add] at this
      simp only [List.getD_eq_getElem?_getD,List.getElem?_eq_getElem hj2,List.getElem?_eq_getElem (show i<os.length by omega),Option.getD_some,Array.toArray_toList]
      exact this
    refine wpIn_region_any hm ?_
    have:=AnyR.sound hT hE (C0:=C0) (M0:=M0) (w0:=w0) (ro:=ro) (n:=n) (Q:=fun e' a' w'=>e'=Ex.normal.toExit∧Sim P C0 M0 w0 r.2 a' w') (fun a' w' h'=>⟨rfl,h'⟩) _ _ _ a _ key (hs.drawn (w.drawn+1))
    simpa using this

theorem stepR_scope{b:Frame}{a:Act}{k:List Item}{cs:List Frame}{c:Code}:step P (lone (b.atR a (.code (.scope c)::k)) cs w) = .next (lone (b.atR a (.code c :: .inScope c::k)) cs w) :=
  step_lone_go (by simp [stepG,stepG.exec,Frame.atR])
theorem stepR_inScope{b:Frame}{a:Act}{k:List Item}{cs:List Frame}{c:Code}:step P (lone (b.atR a (.inScope c::k)) cs w) = .next (lone (b.atR a k) cs w) :=
  step_lone_go (by simp [stepG,stepG.exec,Frame.atR])
theorem wpIn_scope{F:Fence}{n:Nat}{c:Code}{Q:Exit→Act→World→Prop}{a:Act}(h:c.wpIn F n P (fun e a w=>(∀ l,e ≠ .goto l)∧Q e a w) a w):(Code.scope c).wpIn F n P Q a w:=by
  intro b k cs hro hb hr
  have h0:(lone (b.atR a (.code (.scope c)::k)) cs w).fenced P F:=fenced_calm hb hr rfl
  obtain ⟨e,a₁,w₁,⟨hg,hq⟩,harr⟩:=h b (.inScope c::k) cs hro hb hr
  cases e with
  | normal=>exact ⟨.normal,a₁,w₁,hq,.head h0 stepR_scope (StepsIn.trans harr (.one (fenced_calm hb hr rfl) stepR_inScope))⟩
  | exit id =>
    have hx:exitTo id (.inScope c::k)=exitTo id k:=by simp [exitTo]
    exact ⟨.exit id,a₁,w₁,hq,fun k' hk => .head h0 stepR_scope (harr.1 k' (by rw [hx];exact hk)),
      fun hr' hk=>let ⟨k₁,h1,h2⟩:=harr.2 hr' (by rw [hx];exact hk);⟨k₁,h1,.head h0 stepR_scope h2⟩⟩
  | goto l=>exact absurd rfl (hg l)
  | ret=>exact ⟨_,a₁,w₁,hq,.of_steps (.one h0 stepR_scope) harr⟩
  | panic ch=>exact ⟨_,a₁,w₁,hq,.of_steps (.one h0 stepR_scope) harr⟩
  | outgrown=>exact ⟨_,a₁,w₁,hq,.of_steps (.one h0 stepR_scope) harr⟩

def LoopIn(F:Fence)(n:Nat)(P:Program)(c:Code)(Q:Exit→Act→World→Prop)(a:Act)(w:World):Prop :=
  ∀ (b:Frame) (k:List Item) (cs:List Frame),b.roundOf=F.round→F.fn b.fn→F.room (cs.length+1+n) →
    ∃ e a' w',Q e a' w'∧ArrivesIn (Machine.fenced P F) P (lone (b.atR a (.code c :: .inLoop c::k)) cs w) b k cs e a' w'

theorem LoopIn.step{F:Fence}{n:Nat}{c:Code}{Q:Exit→Act→World→Prop}{a:Act}(h:c.wpIn F n P (Exit.then (LoopIn F n P c Q) Q) a w):LoopIn F n P c Q a w:=by
  intro b k cs hro hb hr
  obtain ⟨e,a₁,w₁,hq,harr⟩:=h b (.inLoop c::k) cs hro hb hr
  cases e with
  | normal =>
    obtain ⟨e₂,a₂,w₂,hq₂,harr₂⟩:=hq b k cs hro hb hr
    exact ⟨e₂,a₂,w₂,hq₂,.of_steps (StepsIn.trans harr (.one (fenced_calm hb hr rfl) stepR_inLoop)) harr₂⟩
  | exit id=>exact ⟨_,a₁,w₁,hq,.pass (x := .inLoop c) rfl (fun _ _ => .inl (by simp)) harr⟩
  | goto l=>exact ⟨_,a₁,w₁,hq,.pass (x := .inLoop c) rfl (fun _ _ => .inl (by simp)) harr⟩
  | ret=>exact ⟨_,a₁,w₁,hq,.pass (x := .inLoop c) rfl (fun _ _ => .inl (by simp)) harr⟩
  | panic ch=>exact ⟨_,a₁,w₁,hq,.pass (x := .inLoop c) rfl (fun _ _ => .inl (by simp)) harr⟩
  | outgrown=>exact ⟨_,a₁,w₁,hq,.pass (x := .inLoop c) rfl (fun _ _ => .inl (by simp)) harr⟩
theorem LoopIn.wp{F:Fence}{n:Nat}{c:Code}{Q:Exit→Act→World→Prop}{a:Act}(h:LoopIn F n P c Q a w):(Code.loop c).wpIn F n P Q a w:=by
  intro b k cs hro hb hr
  obtain ⟨e,a',w',hq,harr⟩:=h b k cs hro hb hr
  exact ⟨e,a',w',hq,.of_steps (.one (fenced_calm hb hr rfl) stepR_loop) harr⟩
end
section
variable {P:Program} {T:TT} {E:Env} {C C0:Cx} {M M0:Mem} {w w0:World}

theorem mono_runR{ops:Array Oper}{d:Bool}{st:St}:Mono (runR P T E ops d st):=by
  unfold runR;split
  · exact mono_runL
  · exact mono_lb fun _=>mono_bind mono_runD fun _=>mono_lb fun _=>mono_pure _
theorem mono_loopN{b:St→Ask (Ex × St)}(h:∀ st,Mono (b st)):∀ (n:Nat) (st:St),Mono (loopN b n st)
  | 0,_=>mono_fail
  | n+1,st=>by
    unfold loopN
    refine mono_bind (h st) fun r => ?_
    split
    · exact mono_loopN h n _
    · exact mono_pure _
theorem mono_runC{k fuel:Nat}:∀ (c:Code) (st:St),Mono (runC P T E k fuel c st):=by
  intro c
  induction c with
  | skip=>exact fun st=>mono_pure _
  | region id ops d=>exact mono_askN fun st=>mono_bind mono_runR fun _=>mono_pure _
  | seq a b iha ihb =>
    refine mono_askN fun st => ?_
    refine mono_bind (iha st) fun r => ?_
    split
    · exact ihb _
    · exact mono_pure _
  | cond c a b iha ihb =>
    refine mono_askN fun st => ?_
    refine mono_lb fun _=>mono_bind mono_C fun _ => ?_
    split
    · exact iha _
    · exact ihb _
  | block id b ih =>
    refine mono_askN fun st => ?_
    refine mono_bind (ih st) fun r => ?_
    split
    · split <;> exact mono_pure _
    · exact mono_pure _
  | loop b ih=>exact mono_askN fun st=>mono_auto (mono_loopN ih _ _)
  | exit id=>exact fun st=>mono_pure _
  | label l=>exact fun st=>mono_pure _
  | scope b ih=>exact ih
  | ret=>exact fun st=>mono_pure _
  | _=>exact mono_askN fun st=>mono_fail

theorem loopN_sound{K:Nat}{c:Code}{b:St→Ask (Ex × St)}(hm:∀ st,Mono (b st))(h:∀ {st e st' s s'},b st s=some ((e,st'),s')→Good s'→CodeOK P K c st e st'):∀ (n:Nat) {st:St} {e:Ex} {st':St} {s s':AS},loopN b n st s=some ((e,st'),s')→Good s' →
    ∀ (C0:Cx) (M0:Mem) (w0:World) (a:Act) (w:World),M0.length≤K→Sim P C0 M0 w0 st a w→∀ (ro:Option Nat),RoOK ro c→∀ (k:Nat),LoopIn (Fen ro) k P c (fun e' a' w'=>e'=e.toExit∧e' ≠ .normal∧Sim P C0 M0 w0 st' a' w') a w
  | 0,st,e,st',s,s',h0,_=>(ask_fail h0).elim
  | n+1,st,e,st',s,s',h0,g=>by
    intro C0 M0 w0 a w hK hs ro hro k
    unfold loopN at h0
    obtain ⟨⟨e1,st1⟩,s1,h1,k1⟩:=ask_bind h0
    refine LoopIn.step ?_
    cases e1 with
    | normal =>
      have g1:=(mono_loopN hm n st1).good k1 g
      have ih:=loopN_sound hm h n k1 g C0 M0 w0
      refine wpIn_mono (h h1 g1 C0 M0 w0 a w hK hs ro hro k) ?_
      rintro e' a' w' ⟨rfl,hs'⟩
      exact ih a' w' hK hs' ro hro k
    | ret =>
      obtain ⟨he,rfl⟩:=ask_pure k1
      cases he
      refine wpIn_mono (h h1 g C0 M0 w0 a w hK hs ro hro k) ?_
      rintro e' a' w' ⟨rfl,hs'⟩
      exact ⟨rfl,nofun,hs'⟩
    | exit id =>
      obtain ⟨he,rfl⟩:=ask_pure k1
      cases he
      refine wpIn_mono (h h1 g C0 M0 w0 a w hK hs ro hro k) ?_
      rintro e' a' w' ⟨rfl,hs'⟩
      exact ⟨rfl,nofun,hs'⟩

theorem runC_sound(hT:∀ t i,T t=some i→tiOf P t=some i)(hE:EnvOK P E)(hm:P.follows .mixedOrders=true){k fuel:Nat}:∀ (c:Code) {st:St} {e:Ex} {st':St} {s s':AS},runC P T E k fuel c st s=some ((e,st'),s')→Good s'→CodeOK P k c st e st':=by
  intro c
  induction c with
  | skip =>
    intro st e st' s s' h g C0 M0 w0 a w hk hs ro hro n
    obtain ⟨he,rfl⟩:=ask_pure h
    cases he
    exact wpIn_skip ⟨rfl,hs⟩
  | region id ops d =>
    intro st e st' s s' h g
    refine askN_sound ?_ h g
    intro st st' e s s' h g
    obtain ⟨st1,s1,h1,k1⟩:=ask_bind h
    obtain ⟨he,rfl⟩:=ask_pure k1
    cases he
    exact runR_sound hT hE hm h1 g
  | seq a b iha ihb =>
    intro st e st' s s' h g
    refine askN_sound ?_ h g
    intro st st' e s s' h g C0 M0 w0 ac w hk hs ro hro n
    obtain ⟨⟨e1,st1⟩,s1,h1,k1⟩:=ask_bind h
    refine wpIn_seq ?_
    cases e1 with
    | normal =>
      have g1:=(mono_runC b st1).good k1 g
      refine wpIn_mono (iha h1 g1 C0 M0 w0 ac w hk hs ro hro.seq1 n) ?_
      rintro e' a' w' ⟨rfl,hs'⟩
      exact ihb k1 g C0 M0 w0 a' w' hk hs' ro hro.seq2 n
    | ret =>
      obtain ⟨he,rfl⟩:=ask_pure k1
      cases he
      refine wpIn_mono (iha h1 g C0 M0 w0 ac w hk hs ro hro.seq1 n) ?_
      rintro e' a' w' ⟨rfl,hs'⟩
      exact ⟨rfl,hs'⟩
    | exit id =>
      obtain ⟨he,rfl⟩:=ask_pure k1
      cases he
      refine wpIn_mono (iha h1 g C0 M0 w0 ac w hk hs ro hro.seq1 n) ?_
      rintro e' a' w' ⟨rfl,hs'⟩
      exact ⟨rfl,hs'⟩
  | cond c a b iha ihb =>
    intro st e st' s s' h g
    refine askN_sound ?_ h g
    intro st st' e s s' h g C0 M0 w0 ac w hk hs ro hro n
    obtain ⟨x,s1,h1,k1⟩:=ask_bind h
    obtain ⟨e1,rfl⟩:=ask_lift h1
    obtain ⟨d,s2,h2,k2⟩:=ask_bind k1
    have hs0:=hs
    obtain ⟨C,hS,_⟩:=hs0
    cases d with
    | true =>
      obtain ⟨hb,_⟩:=askC_sound (hS.ev e1) h2 ((mono_runC a st).good k2 g)
      exact wpIn_cond_true hb (iha k2 g C0 M0 w0 ac w hk hs ro hro.cond1 n)
    | false =>
      obtain ⟨hb,_⟩:=askC_sound (hS.ev e1) h2 ((mono_runC b st).good k2 g)
      exact wpIn_cond_false hb (ihb k2 g C0 M0 w0 ac w hk hs ro hro.cond2 n)
  | block id b ih =>
    intro st e st' s s' h g
    refine askN_sound ?_ h g
    intro st st' e s s' h g C0 M0 w0 ac w hk hs ro hro n
    obtain ⟨⟨e1,st1⟩,s1,h1,k1⟩:=ask_bind h
    refine wpIn_block ?_
    cases e1 with
    | normal =>
      obtain ⟨he,rfl⟩:=ask_pure k1
      cases he
      refine wpIn_mono (ih h1 g C0 M0 w0 ac w hk hs ro hro.block n) ?_
      rintro e' a' w' ⟨rfl,hs'⟩
      exact ⟨rfl,hs'⟩
    | ret =>
      obtain ⟨he,rfl⟩:=ask_pure k1
      cases he
      refine wpIn_mono (ih h1 g C0 M0 w0 ac w hk hs ro hro.block n) ?_
      rintro e' a' w' ⟨rfl,hs'⟩
      exact ⟨rfl,hs'⟩
    | exit i =>
      dsimp only at k1
      cases hb:Nat.beq i id with
      | true =>
        rw [hb] at k1
        obtain ⟨he,rfl⟩:=ask_pure k1
        cases he
        have hid:i=id:=Nat.eq_of_beq_eq_true hb
        refine wpIn_mono (ih h1 g C0 M0 w0 ac w hk hs ro hro.block n) ?_
        rintro e' a' w' ⟨rfl,hs'⟩
        simp only [Ex.toExit,Exit.inBlock,hid,if_true]
        exact ⟨trivial,hs'⟩
      | false =>
        rw [hb] at k1
        obtain ⟨he,rfl⟩:=ask_pure k1
        cases he
        have hid:i≠id:=Nat.ne_of_beq_eq_false hb
        refine wpIn_mono (ih h1 g C0 M0 w0 ac w hk hs ro hro.block n) ?_
        rintro e' a' w' ⟨rfl,hs'⟩
        simp only [Ex.toExit,Exit.inBlock,hid,if_false]
        exact ⟨trivial,hs'⟩
  | loop b ih =>
    intro st e st' s s' h g
    refine askN_sound ?_ h g
    intro st st' e s s' h g C0 M0 w0 ac w hk hs ro hro n
    refine wpIn_mono (LoopIn.wp (loopN_sound (mono_runC b) ih fuel (auto_inv h) g C0 M0 w0 ac w hk hs ro hro.loop n)) ?_
    rintro e' a' w' ⟨h1,_,h2⟩
    exact ⟨h1,h2⟩
  | exit id =>
    intro st e st' s s' h g C0 M0 w0 a w hk hs ro hro n
    obtain ⟨he,rfl⟩:=ask_pure h
    cases he
    exact wpIn_exit ⟨rfl,hs⟩
  | label l =>
    intro st e st' s s' h g C0 M0 w0 a w hk hs ro hro n
    obtain ⟨he,rfl⟩:=ask_pure h
    cases he
    exact wpIn_label ⟨rfl,hs⟩
  | scope b ih =>
    intro st e st' s s' h g C0 M0 w0 a w hk hs ro hro n
    refine wpIn_scope (wpIn_mono (ih h g C0 M0 w0 a w hk hs ro hro.scope n) ?_)
    rintro e' a' w' ⟨rfl,hs'⟩
    exact ⟨fun l=>by cases e <;> simp [Ex.toExit],rfl,hs'⟩
  | ret =>
    intro st e st' s s' h g C0 M0 w0 a w hk hs ro hro n
    obtain ⟨he,rfl⟩:=ask_pure h
    cases he
    exact wpIn_ret ⟨rfl,hs⟩
  | _ =>
    intro st e st' s s' h g
    refine askN_sound ?_ h g
    intro st st' e s s' h g
    exact (ask_fail h).elim
end
section
variable {P:Program} {T:TT} {E:Env} {C C0:Cx} {M M0:Mem} {w w0:World}

def resV(T:TT)(st:St):ResultVar→Ask AV
  | .tmp t=>lift st.t[t]?
  | .cell a t=>do
    let x ← lift st.t[a]?
    vload T st.m t x
def resL(T:TT)(st:St):List ResultVar→Ask (List AV)
  | []=>pure []
  | r::l=>do
    let x ← resV T st r
    let xs ← resL T st l
    pure (x::xs)
def resA:List AV→AV
  | [x]=>x
  | l => .tup l

def runF(P:Program)(T:TT)(E:Env)(fuel:Nat)(fn:Func)(c:Code)(args:List AV)(m:Mem):Ask (AV × Mem):=do
  let r ← runC P T E m.length fuel c ⟨args++List.replicate (fn.ntmps-args.length) .any,m⟩
  match r.1 with
  | .exit _=>fail
  | _=>do
    let l ← resL T r.2 fn.results.toList
    pure (resA l,r.2.m)

def FMM(P:Program)(f:Nat)(args:List AV)(M:Mem)(r:AV)(M':Mem):Prop :=
  ∀ (C:Cx) (w:World) (us:List Value),RepL C M w args us→MemOK P C M w→∀ n,CallsIn Fence.wide n P f us.toArray w (fun e w'=>∃ u,e = .returned u∧∃ C',Fr C M w C' M' w'∧MemOK P C' M' w'∧Rep C' M' w' r u)

theorem mono_resL{st:St}:∀ (l:List ResultVar),Mono (resL T st l)
  | []=>mono_pure _
  | r::l=>by
    unfold resL
    refine mono_bind ?_ fun _=>mono_bind (mono_resL l) fun _=>mono_pure _
    cases r with
    | tmp t=>exact mono_lift _
    | cell a t=>exact mono_lb fun _=>mono_vload

def resSem(tmps:Array Value):ResultVar→Sem Value
  | .tmp t=>pure (tmps.getD t undef)
  | .cell a t=>do loadVar t (← asAddr (tmps.getD a undef))

theorem vload_ptr{t:Nat}{y x:AV}{u:Value}{s s':AS}(h:vload T M t y s=some (x,s'))(hy:Rep C M w y u):∃ p,u = .pointer (some p):=by
  unfold vload at h
  obtain ⟨i,s1,h1,k1⟩:=ask_bind h
  split at k1
  · rename_i id off
    obtain ⟨o,s2,h2,k2⟩:=ask_bind k1
    obtain ⟨e2,rfl⟩:=ask_lift h2
    have hl:o.live=true:=by
      cases o with
      | dead=>exact (ask_fail k2).elim
      | _=>rfl
    obtain ⟨b,hu,_⟩:=ptr_live hy (live_of (objAt_inv e2) hl)
    exact ⟨_,hu⟩
  · cases hy;exact ⟨_,rfl⟩
  · exact (ask_fail k1).elim

theorem resV_sound(hT:∀ t i,T t=some i→tiOf P t=some i)(hM:MemOK P C M w){ts:List AV}{us:Array Value}(hS:Slots C M w ts us){r:ResultVar}{x:AV}{s s':AS}(h:resV T ⟨ts,M⟩ r s=some (x,s'))(g:Good s') :
    ∃ u,(resSem us r).run P w = .ok u w∧Rep C M w x u:=by
  cases r with
  | tmp t =>
    obtain ⟨e1,rfl⟩:=ask_lift h
    exact ⟨_,rfl,hS.at e1⟩
  | cell a t =>
    obtain ⟨y,s1,h1,k1⟩:=ask_bind h
    obtain ⟨e1,rfl⟩:=ask_lift h1
    obtain ⟨_,u,h2,h3⟩:=vload_sound hT hM (hS.at e1) k1 g
    refine ⟨u,?_,h3⟩
    obtain ⟨p,hp⟩:=vload_ptr k1 (hS.at e1)
    unfold Instr.loadAt at h2
    simp only [resSem]
    rw [hp] at h2 ⊢
    exact h2

theorem resL_sound(hT:∀ t i,T t=some i→tiOf P t=some i)(hM:MemOK P C M w){ts:List AV}{us:Array Value}(hS:Slots C M w ts us):∀ (l:List ResultVar) {xs:List AV} {s s':AS},resL T ⟨ts,M⟩ l s=some (xs,s')→Good s' →
    ∃ vs:List Value,(l.mapM (resSem us)).run P w = .ok vs w∧RepL C M w xs vs
  | [],xs,s,s',h,g=>by
    obtain ⟨rfl,rfl⟩:=ask_pure h
    exact ⟨[],rfl,.nil⟩
  | r::l,xs,s,s',h,g=>by
    obtain ⟨x,s1,h1,k1⟩:=ask_bind h
    obtain ⟨ys,s2,h2,k2⟩:=ask_bind k1
    obtain ⟨rfl,rfl⟩:=ask_pure k2
    obtain ⟨u,e1,r1⟩:=resV_sound hT hM hS h1 ((mono_resL l).good h2 g)
    obtain ⟨vs,e2,r2⟩:=resL_sound hT hM hS l h2 g
    refine ⟨u::vs,?_,.cons _ _ _ _ r1 r2⟩
    rw [List.mapM_cons,Sem.run_bind,e1,Result.andThen_ok,Sem.run_bind,e2,Result.andThen_ok,Sem.run_pure]

theorem results_run{fn:Func}{us:Array Value}{vs:List Value}(h:(fn.results.toList.mapM (resSem us)).run P w = .ok vs w):(results fn us).run P w = .ok (if _:vs.length=1 then vs[0] else .tuple vs.toArray) w:=by
  have e:(results fn us)=(do let vs ← fn.results.mapM (resSem us);pure (if h:vs.size=1 then vs[0] else .tuple vs)):=by
    unfold results
    congr 1
  rw [e,Sem.run_bind,Array.mapM_eq_mapM_toList,Sem.run_map,h,Result.andThen_ok,Result.andThen_ok,Sem.run_pure]
  congr 1

theorem res_rep{xs:List AV}{vs:List Value}(h:RepL C M w xs vs):Rep C M w (resA xs) (if _:vs.length=1 then vs[0] else .tuple vs.toArray):=by
  have hl:=h.len
  cases h with
  | nil=>exact .tup [] _ rfl (fun i h=>by simp at h)
  | cons x u l k hx hr =>
    cases hr with
    | nil=>exact hx
    | cons y v l k hy hr =>
      have hne:¬ (u::v::k).length=1:=by simp
      rw [dif_neg hne]
      refine .tup _ _ (by simpa using hl) (fun i hi => ?_)
      have:=(RepL.cons x u _ _ hx (RepL.cons y v l k hy hr)).at i hi
      rwa [← list_toArray_getD] at this

theorem Sim.take{st:St}{a:Act}{d:Deferred}{ds:List Deferred}(h:Sim P C0 M0 w0 st a w)(hd:a.defers=d::ds):∃ D,d=mark D∧w.heap[D]? = some (.deferred (some []))∧Sim P C0 M0 w0 st { a with defers:=ds } (w.putObj D (.deferred none)):=by
  obtain ⟨C,hS,hM,hF,⟨l,h1,h2,h3⟩,hR⟩:=h
  rw [hd] at h1
  cases l with
  | nil=>simp at h1
  | cons D l =>
    rw [List.map_cons,List.cons.injEq] at h1
    obtain ⟨rfl,rfl⟩:=h1
    obtain ⟨q1,q2,q3⟩:=h3 D (by simp)
    obtain ⟨hnd,hnd2⟩:=List.nodup_cons.1 h2
    have hg:=grownBy_putObj' w D (.deferred none)
    have hsz:(w.putObj D (.deferred none)).heap.size=w.heap.size:=by simp [World.putObj]
    have hk:∀ b,b≠D→(w.putObj D (.deferred none)).heap[b]? = w.heap[b]? := fun b hb=>by
      rcases Nat.lt_or_ge b w.heap.size with h | h
      · exact hg.block b h (by simpa using hb)
      · rw [Array.getElem?_eq_none h,Array.getElem?_eq_none (by omega)]
    have hlive:∀ (id:Nat) (o:AO) (b:Nat),st.m[id]? = some (some o)→o.live=true→C.ι id=some b→b≠D:=fun id o b ho hl hb e=>by
      subst e;exact live_obj hM ho hl hb q1
    have hL:Le C C st.m st.m w (w.putObj D (.deferred none)):=⟨fun _ o h=>⟨o,h⟩,fun _ _ _ _ _ cs h=>⟨cs,h⟩,fun _ o h o' h' hl=>by rw [h] at h';cases h';exact ⟨hl,rfl,rfl⟩,fun _ h=>h,fun b hb=>hk b fun e=>q3 (e ▸ hb)⟩
    refine ⟨D,rfl,q1,C,hS.le hL,⟨fun i ty' n cs hm => ?_,fun i ty' cs hm => ?_,fun i es cl hm => ?_,hM.inj,hM.nF,fun b hb=>by rw [hsz];exact hM.Fs b hb,fun i x b hm hl hb=>by rw [hsz];exact hM.lt i x b hm hl hb⟩,
      ⟨hg.os.trans hF.os,hg.tape.trans hF.tape,hg.output.trans hF.out,Nat.le_trans hF.size hg.size,fun b hb hn=>(hk b (by omega)).trans (hF.keep b hb hn),hF.ids,hF.row,hF.liv,hF.new,hF.F1,hF.F2⟩,⟨l,rfl,hnd2,fun D' hD' => ?_⟩,fun p hp => ?_⟩
    · rcases hM.row _ _ _ _ hm with h4 | ⟨b,arr,inf,q0,q1',q2',q3',q4,q5,q6,q7,q8⟩
      · exact .inl h4
      · exact .inr ⟨b,arr,inf,q0,by rw [hk b (hlive _ _ _ hm rfl q0)];exact q1',q2',q3',q4,q5,q6,fun j hj=>(q7 j hj).mono hL.F hL.fz,q8⟩
    · obtain ⟨b,arr,q0,q1',q2',q3',q4⟩:=hM.box _ _ _ hm
      exact ⟨b,arr,q0,by rw [hk b (hlive _ _ _ hm rfl q0)];exact q1',q2',fun j hj=>(q3' j hj).mono hL,q4⟩
    · obtain ⟨b,arr,q0,q1',q2',q3'⟩:=hM.mp _ _ _ hm
      refine ⟨b,arr,q0,by rw [hk b (hlive _ _ _ hm rfl q0)];exact q1',q2',fun j hj => ?_⟩
      obtain ⟨en,r1,r2,r3,r4⟩:=q3' j hj
      exact ⟨en,r1,r2,r3,r4.mono hL.F hL.fz⟩
    · obtain ⟨r1,r2,r3⟩:=h3 D' (List.mem_cons_of_mem _ hD')
      exact ⟨by rw [hk D' (fun e=>hnd (e ▸ hD'))];exact r1,r2,r3⟩
    · obtain ⟨r1,r2,r3,r4,r5⟩:=hR p hp
      exact ⟨by rw [hk p.1 (fun e=>r3 (by rw [e,q1] at r1;exact (Option.some.inj r1).symm))];exact r1,r2,r3,r4,r5⟩

theorem runF_sound(hT:∀ t i,T t=some i→tiOf P t=some i)(hE:EnvOK P E)(hm:P.follows .mixedOrders=true){fuel f:Nat}{fn:Func}{c:Code}(hf:P.funcs[f]? = some fn)(hb:fn.body=some c){args:List AV}{r:AV}{M':Mem}{s s':AS}
    (h:runF P T E fuel fn c args M s=some ((r,M'),s')) (g:Good s'):FMM P f args M r M':=by
  intro C w us hus hM n
  unfold runF at h
  obtain ⟨⟨e,st⟩,s1,h1,k1⟩:=ask_bind h
  have hlen:=hus.len
  have hS:Slots C M w (args++List.replicate (fn.ntmps-args.length) .any) (us.toArray++Array.replicate (fn.ntmps-us.toArray.size) undef):=by
    refine ⟨by simp [hlen],fun i hi => ?_⟩
    by_cases c1:i<args.length
    · rw [List.getElem_append_left c1,Array.getD_eq_getD_getElem?,Array.getElem?_append_left (by simp;omega)]
      have:=hus.at i c1
      rwa [← list_toArray_getD,Array.getD_eq_getD_getElem?] at this
    · rw [List.getElem_append_right (by omega),List.getElem_replicate]
      exact .any _
  have hsim:Sim P (C.with []) M w ⟨args++List.replicate (fn.ntmps-args.length) .any,M⟩ { tmps:=us.toArray++Array.replicate (fn.ntmps-us.toArray.size) undef,defers:=[] } w:=⟨C,hS,hM,(Fr.refl ..).based [],.nil rfl⟩
  refine callsIn_of_wp_marks hf hb trivial ?_
  have fin:∀ (e':Exit) (a':Act) (w':World),(e' = .normal∨e' = .ret)→Sim P (C.with []) M w st a' w'→(∃ l s2,resL T st fn.results.toList s1=some (l,s2)∧Good s2∧r=resA l∧M'=st.m)→bodyPostM Fence.wide n P fn (fun e w'=>∃ u,e = .returned u∧∃ C',Fr C M w C' M' w'∧MemOK P C' M' w'∧Rep C' M' w' r u) e' a' w':=by
    rintro e' a' w' he hs' ⟨l,s2,h2,g2,rfl,rfl⟩
    have key:∀ (ds:List Deferred) (a':Act) (w':World),a'.defers=ds→Sim P (C.with []) M w st a' w'→LeavesInM Fence.wide n P fn a'.tmps (fun e w'=>∃ u,e = .returned u∧∃ C',Fr C M w C' st.m w'∧MemOK P C' st.m w'∧Rep C' st.m w' (resA l) u) ds .returning w':=by
      intro ds
      induction ds with
      | nil =>
        rintro a' w' hd ⟨C',hS',hM',hF',_⟩
        obtain ⟨ts,m⟩:=st
        obtain ⟨vs,e2,r2⟩:=resL_sound hT hM' hS' fn.results.toList h2 g2
        exact ⟨_,results_run e2,_,rfl,C',hF'.unbased,hM',res_rep r2⟩
      | cons d ds ih =>
        intro a' w' hd hs'
        obtain ⟨D,rfl,hD,hs2⟩:=hs'.take hd
        exact ⟨by simp,.inl ⟨_,_,rfl,run_takeDeferred hD,ih { a' with defers:=ds } _ rfl hs2⟩⟩
    rcases he with rfl | rfl
    · exact key _ a' w' rfl hs'
    · exact key _ a' w' rfl hs'
  have out:(e = .normal∨e = .ret)∧∃ l s2,resL T st fn.results.toList s1=some (l,s2)∧Good s2∧r=resA l∧M'=st.m:=by
    cases e with
    | exit id=>exact (ask_fail k1).elim
    | normal =>
      obtain ⟨l,s2,h2,k2⟩:=ask_bind k1
      obtain ⟨he,rfl⟩:=ask_pure k2
      cases he
      exact ⟨.inl rfl,l,_,h2,g,rfl,rfl⟩
    | ret =>
      obtain ⟨l,s2,h2,k2⟩:=ask_bind k1
      obtain ⟨he,rfl⟩:=ask_pure k2
      cases he
      exact ⟨.inr rfl,l,_,h2,g,rfl,rfl⟩
  obtain ⟨he,l,s2,h2,g2,e3,e4⟩:=out
  have g1:=(mono_resL _).good h2 g2
  refine wpIn_mono (runC_sound hT hE hm c h1 g1 (C.with []) M w _ w (Nat.le_refl _) hsim none (.inl rfl) n) ?_
  rintro e' a' w' ⟨rfl,hs'⟩
  exact fin _ a' w' (by rcases he with rfl | rfl <;> simp [Ex.toExit]) hs' ⟨l,s2,h2,g2,e3,e4⟩
end
section
variable {P:Program} {T:TT} {E:Env} {C C0:Cx} {M M0:Mem} {w w0:World}

mutual
def rigP:PV→Bool
  | .v _=>true
  | .sl _ cs=>match cs with
    | []=>true
    | _=>false
  | .agg cs=>rigPs cs
def rigPs:List PV→Bool
  | []=>true
  | x::r=>match rigP x with
    | true=>rigPs r
    | false=>false
end
mutual
def rig:AV→Bool
  | .p x=>rigP x
  | .kb _=>true
  | .any=>true
  | .yld _=>true
  | .agg cs=>rigL cs
  | .fn _ a b=>match rigL a with
    | true=>rigL b
    | false=>false
  | _=>false
def rigL:List AV→Bool
  | []=>true
  | x::r=>match rig x with
    | true=>rigL r
    | false=>false
end
mutual
def noRef:AV→Bool
  | .p _=>true
  | .kb _=>true
  | .any=>true
  | .yld _=>true
  | .rp _ _=>true
  | .agg cs=>noRefL cs
  | .fn _ a b=>match noRefL a with
    | true=>noRefL b
    | false=>false
  | _=>false
def noRefL:List AV→Bool
  | []=>true
  | x::r=>match noRef x with
    | true=>noRefL r
    | false=>false
end

theorem rigPs_at:∀ {l:List PV},rigPs l=true→∀ i (h:i<l.length),rigP l[i]=true
  | [],_,i,h=>by simp at h
  | x::r,hr,i,h=>by
    unfold rigPs at hr
    split at hr
    · cases i with
      | zero=>assumption
      | succ i=>exact rigPs_at hr i (by simpa using h)
    · cases hr
theorem rigL_at:∀ {l:List AV},rigL l=true→∀ i (h:i<l.length),rig l[i]=true
  | [],_,i,h=>by simp at h
  | x::r,hr,i,h=>by
    unfold rigL at hr
    split at hr
    · cases i with
      | zero=>assumption
      | succ i=>exact rigL_at hr i (by simpa using h)
    · cases hr
theorem noRefL_at:∀ {l:List AV},noRefL l=true→∀ i (h:i<l.length),noRef l[i]=true
  | [],_,i,h=>by simp at h
  | x::r,hr,i,h=>by
    unfold noRefL at hr
    split at hr
    · cases i with
      | zero=>assumption
      | succ i=>exact noRefL_at hr i (by simpa using h)
    · cases hr

theorem RepP.rig{F G:Nat→Prop}{w w':World}{x:PV}{u:Value}(h:RepP F w x u)(hr:rigP x=true):RepP G w' x u:=by
  induction h with
  | v x=>exact .v x
  | sl n cs p cap us h1 h2 h3 _ h5 ih =>
    cases cs with
    | nil=>exact .sl n [] p cap us h1 h2 (fun i h=>by simp at h) (fun i h=>by simp at h) (fun i h=>by simp at h)
    | cons=>simp [rigP] at hr
  | agg cs vs h0 h1 _ ih =>
    have hr':rigPs cs=true:=by simpa [rigP] using hr
    exact .agg cs vs h0 h1 fun i hi=>ih i hi (rigPs_at hr' i hi)

theorem Rep.rig{C C':Cx}{M M':Mem}{w w':World}{x:AV}{u:Value}(h:Rep C M w x u)(hr:rig x=true):Rep C' M' w' x u:=by
  induction h with
  | p x u h=>exact .p x u (h.rig (by simpa [KV.rig] using hr))
  | any u=>exact .any u
  | kb b=>exact .kb b
  | yld l=>exact .yld l
  | agg cs vs h0 h1 _ ih =>
    have hr':rigL cs=true:=by simpa [KV.rig] using hr
    exact .agg cs vs h0 h1 fun i hi=>ih i hi (rigL_at hr' i hi)
  | fn f cs ds us vs h1 h2 _ _ ih1 ih2 =>
    simp only [KV.rig] at hr
    split at hr
    · rename_i hr1
      exact .fn f cs ds us vs h1 h2 (fun i hi=>ih1 i hi (rigL_at hr1 i hi)) (fun i hi=>ih2 i hi (rigL_at hr i hi))
    · cases hr
  | _=>simp [KV.rig] at hr

theorem Rep.noRef{C C':Cx}{M M':Mem}{w w':World}{x:AV}{u:Value}(h:Rep C M w x u)(hr:noRef x=true)(hF:∀ b,C.F b→C'.F b)(hz:∀ b,C.F b→w'.heap[b]? = w.heap[b]?):Rep C' M' w' x u:=by
  induction h with
  | p x u h=>exact .p x u (h.mono hF hz)
  | any u=>exact .any u
  | kb b=>exact .kb b
  | yld l=>exact .yld l
  | rp cs off b o us h1 h2 h3=>exact .rp cs off b o us (fun i hi=>⟨hF _ (h1 i hi).1,(cell_heap (hz _ (h1 i hi).1) _).trans (h1 i hi).2⟩) (fun i hi=>(h2 i hi).mono hF hz) h3
  | agg cs vs h0 h1 _ ih =>
    have hr':noRefL cs=true:=by simpa [KV.noRef] using hr
    exact .agg cs vs h0 h1 fun i hi=>ih i hi (noRefL_at hr' i hi)
  | fn f cs ds us vs h1 h2 _ _ ih1 ih2 =>
    simp only [KV.noRef] at hr
    split at hr
    · rename_i hr1
      exact .fn f cs ds us vs h1 h2 (fun i hi=>ih1 i hi (noRefL_at hr1 i hi)) (fun i hi=>ih2 i hi (noRefL_at hr i hi))
    · cases hr
  | _=>simp [KV.noRef] at hr

def Cx.bare(C:Cx)(G:Nat→Prop):Cx:={ ι:=fun _=>none,κ:=C.κ,F:=G }

section
variable {G:Nat→Prop} (hM:MemOK P C M w) (hG:∀ b,C.F b→G b) (hO:∀ (id:Nat) (o:AO) (b:Nat),M[id]? = some (some o)→o.live=true→C.ι id=some b→G b)
include hM hG hO

theorem view1_sound{x:AV}{u:Value}{y:PV}(h:Rep C M w x u)(hv:view1 M x=some y):RepP G w y u:=by
  unfold view1 at hv
  split at hv
  · cases hv;cases h with | p _ _ h=>exact h.mono hG (fun _ _=>rfl)
  · cases hv;cases h;exact .v _
  · split at hv
    · rename_i id _ r hr
      cases hv
      have ho:=rowAt_inv hr
      refine (closed_row hM ho h).mono (fun b hb => ?_) (fun _ _=>rfl)
      rcases hb with hb | ⟨_,hb⟩
      · exact hG b hb
      · exact hO _ _ b ho rfl hb
    · cases hv
  · cases hv

theorem viewC_sound:∀ {l:List AV} {us:Nat→Value} {ys:List PV},(∀ i (h:i<l.length),Rep C M w l[i] (us i))→viewC M l=some ys→ys.length=l.length∧∀ i (h:i<ys.length),RepP G w ys[i] (us i)
  | [],_,ys,_,hv=>by cases hv;exact ⟨rfl,fun i h=>by simp at h⟩
  | x::r,us,ys,h,hv=>by
    unfold viewC at hv
    split at hv
    · rename_i y h1
      split at hv
      · rename_i l h2
        cases hv
        obtain ⟨q1,q2⟩:=viewC_sound (us:=fun i=>us (i+1)) (fun i hi=>h (i+1) (by simpa using hi)) h2
        refine ⟨by simp [q1],fun i hi => ?_⟩
        cases i with
        | zero=>exact view1_sound hM hG hO (h 0 (by simp)) h1
        | succ i=>exact q2 i (by simpa using hi)
      · cases hv
    · cases hv

set_option linter.unusedSectionVars false in
mutual
theorem view_sound:∀ {x:AV} {u:Value} {y:AV},Rep C M w x u→view M x=some y→Rep (C.bare G) [] w y u
  | .p x,u,y,h,hv=>by
    simp only [view] at hv
    cases hv
    cases h with | p _ _ h=>exact .p _ _ (h.mono hG (fun _ _=>rfl))
  | .kb b,u,y,h,hv=>by simp only [view] at hv;cases hv;cases h;exact .kb _
  | .any,u,y,h,hv=>by simp only [view] at hv;cases hv;exact .any _
  | .yld l,u,y,h,hv=>by simp only [view] at hv;cases hv;cases h;exact .yld _
  | .own id,u,y,h,hv=>by
    simp only [view] at hv
    split at hv
    · rename_i r hr
      cases hv
      exact .p _ _ (view1_sound hM hG hO h (by simp only [view1,hr]))
    · cases hv
  | .rp cs off,u,y,h,hv=>by
    simp only [view] at hv
    cases hv
    cases h with
    | rp _ _ b o us h1 h2 h3=>exact .rp cs off b o us (fun i hi=>⟨hG _ (h1 i hi).1,(h1 i hi).2⟩) (fun i hi=>(h2 i hi).mono hG (fun _ _=>rfl)) h3
  | .ptr id off,u,y,h,hv=>by
    simp only [view] at hv
    split at hv
    · rename_i ty n cs ho
      cases hv
      have ho:=objAt_inv ho
      obtain ⟨b,rfl,hb⟩:=ptr_live h (live_of ho rfl)
      rcases hM.row _ _ _ _ ho with ⟨hn,_⟩ | ⟨b',arr,inf,hb',q1,q2,q3,q4,q5,q6,q7,q8⟩
      · rw [hb] at hn;cases hn
      · rw [hb] at hb';cases hb'
        have hle:cs.length≤arr.size:=by rw [q3,q4];exact Nat.mul_le_mul_right _ q5
        have:=Rep.rp (C:=C.bare G) (M:=[]) (w:=w) cs off b 0 (fun j=>arr.getD j undef) (fun i hi=>⟨hO _ _ b ho rfl hb,by rw [Nat.zero_add];exact cell_of_heap q1 (by omega)⟩) (fun i hi=>(q7 i hi).mono hG (fun _ _=>rfl)) q8
        rwa [Nat.zero_add] at this
    · rename_i ty cs ho
      have ho:=objAt_inv ho
      split at hv
      · rename_i xs hx
        cases hv
        obtain ⟨b,rfl,hb⟩:=ptr_live h (live_of ho rfl)
        obtain ⟨b',arr,hb',q1,q2,q3,q4⟩:=hM.box _ _ _ ho
        rw [hb] at hb';cases hb'
        obtain ⟨r1,r2⟩:=viewC_sound hM hG hO (us:=fun j=>arr.getD j undef) q3 hx
        have:=Rep.rp (C:=C.bare G) (M:=[]) (w:=w) xs off b 0 (fun j=>arr.getD j undef) (fun i hi=>⟨hO _ _ b ho rfl hb,by rw [Nat.zero_add];exact cell_of_heap q1 (by omega)⟩) r2 (fun i hi=>q4 i (by omega))
        rwa [Nat.zero_add] at this
      · cases hv
    · cases hv
  | .agg cs,u,y,h,hv=>by
    simp only [view] at hv
    split at hv
    · rename_i xs hx
      cases hv
      cases h with
      | agg _ vs h0 h1 h2 =>
        obtain ⟨q1,q2⟩:=viewL_sound (us:=fun i=>vs.getD i undef) h2 hx
        exact ofCells_rep (fun i hi=>h0 i (by omega)) (by omega) q2
    · cases hv
  | .fn f a b,u,y,h,hv=>by
    simp only [view] at hv
    split at hv
    · rename_i a' ha
      split at hv
      · rename_i b' hb
        cases hv
        cases h with
        | fn _ _ _ us vs h1 h2 h3 h4 =>
          obtain ⟨q1,q2⟩:=viewL_sound (us:=fun i=>us.getD i undef) h3 ha
          obtain ⟨r1,r2⟩:=viewL_sound (us:=fun i=>vs.getD i undef) h4 hb
          exact .fn f a' b' us vs (by omega) (by omega) q2 r2
      · cases hv
    · cases hv
  | .arr id off n,u,y,h,hv=>by
    simp only [view] at hv
    split at hv
    · rename_i r hr
      cases hv
      have ho:=rowAt_inv hr
      cases h with
      | arr _ _ _ u h0 ha hrow =>
        rcases hrow _ ho rfl with ⟨rfl,p,cap,rfl,hc⟩ | ⟨b,cap,rfl,hn,hc,hb⟩
        · rw [Nat.zero_mul,List.take_zero]
          exact .p _ _ (.sl 0 [] p cap (fun _=>undef) (Nat.zero_le _) hc (fun i h=>by simp at h) (fun i h=>by simp at h) (fun i h=>by simp at h))
        · rcases hM.row _ _ _ _ ho with ⟨hn',_⟩ | ⟨b',arr,inf,hb',q1,q2,q3,q4,q5,q6,q7,q8⟩
          · rw [hb] at hn';cases hn'
          · rw [hb] at hb';cases hb'
            have hle:r.2.2.length≤arr.size:=by rw [q3,q4];exact Nat.mul_le_mul_right _ q5
            have hlt:∀ i,i<((r.2.2.drop off).take (n*(r.2.2.length / r.2.1))).length→off+i<r.2.2.length:=fun i hi=>by simp at hi;omega
            refine .p _ _ (.sl n _ _ cap (fun j=>arr.getD (off+j) undef) hn hc (fun i hi=>⟨b,off,rfl,hO _ _ b ho rfl hb,cell_of_heap q1 (by have:=hlt i hi;omega)⟩) (fun i hi => ?_) (fun i hi=>q8 _ (hlt i hi)))
            simp only [List.getElem_take,List.getElem_drop]
            exact (q7 _ (hlt i hi)).mono hG (fun _ _=>rfl)
    · cases hv
  | .tup _,_,_,_,hv=>by simp [view] at hv
  | .mp _,_,_,_,hv=>by simp [view] at hv
theorem viewL_sound:∀ {l:List AV} {us:Nat→Value} {ys:List AV},(∀ i (h:i<l.length),Rep C M w l[i] (us i))→viewL M l=some ys→ys.length=l.length∧∀ i (h:i<ys.length),Rep (C.bare G) [] w ys[i] (us i)
  | [],_,ys,_,hv=>by simp only [viewL] at hv;cases hv;exact ⟨rfl,fun i h=>by simp at h⟩
  | x::r,us,ys,h,hv=>by
    simp only [viewL] at hv
    split at hv
    · rename_i y h1
      split at hv
      · rename_i l h2
        cases hv
        obtain ⟨q1,q2⟩:=viewL_sound (us:=fun i=>us (i+1)) (fun i hi=>h (i+1) (by simpa using hi)) h2
        refine ⟨by simp [q1],fun i hi => ?_⟩
        cases i with
        | zero=>exact view_sound (h 0 (by simp)) h1
        | succ i=>exact q2 i (by simpa using hi)
      · cases hv
    · cases hv
end
end
end
section
variable {P:Program} {T:TT} {E:Env} {C C':Cx} {M M1:Mem} {w w':World}

def Cx.after(C:Cx)(w w':World)(kb:Option Nat):Cx:={ ι:=C.ι,κ:=C.κ,F:=fun b=>C.F b∨(w.heap.size≤b∧b<w'.heap.size∧kb≠some b) }

theorem fr_after(hM:MemOK P C M w){kb:Option Nat}(ho:w'.os=w.os)(ht:w'.tape=w.tape)(hu:w'.output=w.output)(hs:w.heap.size≤w'.heap.size)(hk:∀ b,b<w.heap.size→w'.heap[b]? = w.heap[b]?):Fr C M w (C.after w w' kb) M w'∧MemOK P (C.after w w' kb) M w':=by
  have hf:Fr C M w (C.after w w' kb) M w':=⟨ho,ht,hu,hs,fun b hb _=>hk b hb,fun _ x h=>⟨⟨x,h⟩,rfl,rfl⟩,fun _ _ _ _ _ cs h=>⟨cs,h⟩,fun _ o h o' h' hl=>by rw [h] at h';cases h';exact hl,
    fun i x _ h hl hb => .inr ⟨i,x,h,hl,hb⟩,fun _ h => .inl h,fun b h=>by rcases h with h | ⟨h,_⟩;exact .inl h;exact .inr (.inl h)⟩
  have hL:=hM.le hf
  refine ⟨hf,fun i ty' n cs hm => ?_,fun i ty' cs hm => ?_,fun i es cl hm => ?_,hM.inj,fun i x b hm hl hb => ?_,fun b hb => ?_,fun i x b hm hl hb=>Nat.lt_of_lt_of_le (hM.lt i x b hm hl hb) hs⟩
  · rcases hM.row _ _ _ _ hm with h4 | ⟨b,arr,inf,q0,q1,q2,q3,q4,q5,q6,q7,q8⟩
    · exact .inl h4
    · exact .inr ⟨b,arr,inf,q0,(hk b (hM.lt _ _ _ hm rfl q0)).trans q1,q2,q3,q4,q5,q6,fun j hj=>(q7 j hj).mono hL.F hL.fz,q8⟩
  · obtain ⟨b,arr,q0,q1,q2,q3,q4⟩:=hM.box _ _ _ hm
    exact ⟨b,arr,q0,(hk b (hM.lt _ _ _ hm rfl q0)).trans q1,q2,fun j hj=>(q3 j hj).mono hL,q4⟩
  · obtain ⟨b,arr,q0,q1,q2,q3⟩:=hM.mp _ _ _ hm
    refine ⟨b,arr,q0,(hk b (hM.lt _ _ _ hm rfl q0)).trans q1,q2,fun j hj => ?_⟩
    obtain ⟨en,r1,r2,r3,r4⟩:=q3 j hj
    exact ⟨en,r1,r2,r3,r4.mono hL.F hL.fz⟩
  · rintro (h | ⟨h,_⟩)
    · exact hM.nF i x b hm hl hb h
    · have:=hM.lt i x b hm hl hb
      omega
  · rcases hb with h | ⟨_,h,_⟩
    · exact Nat.lt_of_lt_of_le (hM.Fs b h) hs
    · exact h

theorem mem_take{C1:Cx}(hM:MemOK P C1 M w'){base b k ty n:Nat}{cs:List PV}(hf:Free M base)(hnF:¬ C1.F b)(hold:∀ (i:Nat) (x:AO) (j:Nat),M[i]? = some (some x)→x.live=true→C1.ι i=some j→j<b)(hb:b<w'.heap.size)
    (hrow:∃ arr i,w'.heap[b]? = some (.cells arr ty (0,0))∧P.info? ty=some i∧arr.size=k*i.size∧cs.length=n*i.size∧n≤k∧k≤maxLen∧(∀ j (h:j<cs.length),RepP C1.F w' cs[j] (arr.getD j undef))∧∀ j,j<cs.length→(arr.getD j undef).oneCell'=true) :
    MemOK P (C1.grow base b k) (setAt M base (some (.row ty n cs))) w'∧Le C1 (C1.grow base b k) M (setAt M base (some (.row ty n cs))) w' w':=by
  have hne:∀ (i:Nat) (x:AO),M[i]? = some (some x)→i≠base:=fun i x h e=>hf x (e ▸ h)
  have hL:Le C1 (C1.grow base b k) M (setAt M base (some (.row ty n cs))) w' w':=by
    refine ⟨fun i x h=>⟨x,(setAt_other M base i _ x (fun e=>hne i x h e.symm)).2 h⟩,fun i x h ty n cs hm=>⟨cs,(setAt_other M base i _ _ (fun e=>hne i x h e.symm)).1 hm⟩,fun i x h o' hm hl => ?_,fun _ h=>h,fun _ _=>rfl⟩
    have h4:=(setAt_other M base i _ _ (fun e=>hne i x h e.symm)).1 hm
    rw [h] at h4;cases h4
    exact ⟨hl,by simp [Cx.grow,hne i x h],by simp [Cx.grow,hne i x h]⟩
  have hold':∀ (i:Nat) (x:AO),i≠base→(setAt M base (some (.row ty n cs)))[i]? = some (some x)→M[i]? = some (some x):=fun i x h=>(setAt_other M base i _ x (fun e=>h e.symm)).1
  have hnew:∀ (x:AO),(setAt M base (some (.row ty n cs)))[base]? = some (some x)→x = .row ty n cs:=fun x h=>by rw [setAt_same] at h;cases h;rfl
  have hι:∀ i,i≠base→(C1.grow base b k).ι i=C1.ι i:=fun i h=>by simp [Cx.grow,h]
  have hκ:∀ i,i≠base→(C1.grow base b k).κ i=C1.κ i:=fun i h=>by simp [Cx.grow,h]
  have hιs:(C1.grow base b k).ι base=some b:=by simp [Cx.grow]
  have hκs:(C1.grow base b k).κ base=k:=by simp [Cx.grow]
  refine ⟨⟨fun i ty' n' cs' hm => ?_,fun i ty' cs' hm => ?_,fun i es cl hm => ?_,fun i i' o1 o2 j hm hl hm' hl' hb1 hb2 => ?_,fun i x j hm hl hj => ?_,fun j hj=>hM.Fs j hj,fun i x j hm hl hj => ?_⟩,hL⟩
  · by_cases e:i=base
    · subst e
      cases hnew _ hm
      obtain ⟨arr,inf,q0,q1,q2,q3,q4,q5,q6,q7⟩:=hrow
      exact .inr ⟨b,arr,inf,hιs,q0,q1,by rw [hκs];exact q2,q3,by rw [hκs];exact q4,by rw [hκs];exact q5,q6,q7⟩
    · rw [hι i e,hκ i e]
      rcases hM.row _ _ _ _ (hold' i _ e hm) with h4 | ⟨j,arr,inf,q0,q1,q2,q3,q4,q5,q6,q7,q8⟩
      · exact .inl h4
      · exact .inr ⟨j,arr,inf,q0,q1,q2,q3,q4,q5,q6,q7,q8⟩
  · by_cases e:i=base
    · subst e;cases hnew _ hm
    · rw [hι i e]
      obtain ⟨j,arr,q0,q1,q2,q3,q4⟩:=hM.box _ _ _ (hold' i _ e hm)
      exact ⟨j,arr,q0,q1,q2,fun j hj=>(q3 j hj).mono hL,q4⟩
  · by_cases e:i=base
    · subst e;cases hnew _ hm
    · rw [hι i e]
      obtain ⟨j,arr,q0,q1,q2,q3⟩:=hM.mp _ _ _ (hold' i _ e hm)
      refine ⟨j,arr,q0,q1,q2,fun j hj => ?_⟩
      obtain ⟨en,r1,r2,r3,r4⟩:=q3 j hj
      exact ⟨en,r1,r2,r3,r4.mono hL.F hL.fz⟩
  · by_cases e:i=base
    · by_cases e':i'=base
      · rw [e,e']
      · subst e
        rw [hιs] at hb1;cases hb1
        rw [hι i' e'] at hb2
        have:=hold i' _ _ (hold' i' _ e' hm') hl' hb2
        omega
    · by_cases e':i'=base
      · subst e'
        rw [hιs] at hb2;cases hb2
        rw [hι i e] at hb1
        have:=hold i _ _ (hold' i _ e hm) hl hb1
        omega
      · rw [hι i e] at hb1;rw [hι i' e'] at hb2
        exact hM.inj _ _ _ _ _ (hold' i _ e hm) hl (hold' i' _ e' hm') hl' hb1 hb2
  · by_cases e:i=base
    · subst e;rw [hιs] at hj;cases hj;exact hnF
    · rw [hι i e] at hj;exact hM.nF _ _ _ (hold' i _ e hm) hl hj
  · by_cases e:i=base
    · subst e;rw [hιs] at hj;cases hj;exact hb
    · rw [hι i e] at hj;exact hM.lt _ _ _ (hold' i _ e hm) hl hj
end
section
variable {P:Program} {T:TT} {E:Env} {C C':Cx} {M M1:Mem} {w w':World}

def findOwn:List AV→Option Nat
  | []=>none
  | .own id::_=>some id
  | _::r=>findOwn r
def keptOf:AV→Option Nat
  | .own id=>some id
  | .tup l=>findOwn l
  | _=>none
def outX(m:Mem)(base k:Nat)(x:AV):Option AV:=match x with
  | .own id=>match Nat.beq id k with
    | true=>some (.own base)
    | false=>view m (.own id)
  | x=>view m x
def outXL(m:Mem)(base k:Nat):List AV→Option (List AV)
  | []=>some []
  | x::r=>match outX m base k x with
    | some y=>match outXL m base k r with
      | some l=>some (y::l)
      | none=>none
    | none=>none
def outK(m:Mem)(base k:Nat):AV→Option AV
  | .tup l=>match outXL m base k l with
    | some ys=>some (.tup ys)
    | none=>none
  | x=>outX m base k x
def outP(m:Mem)(base:Nat)(r:AV):Option (AV × Upd):=match keptOf r with
  | some k=>match rowAt m k with
    | some q=>match outK (upds m [(k,.dead)]) base k r with
      | some y=>some (y,[(base,.row q.1 q.2.1 q.2.2)])
      | none=>none
    | none=>none
  | none=>match outK m base m.length r with
    | some y=>some (y,[])
    | none=>none

def rigC:AV→Bool
  | .own _=>true
  | x=>rig x
def rigCL:List AV→Bool
  | []=>true
  | x::r=>match rigC x with
    | true=>rigCL r
    | false=>false
def rigA:AV→Bool
  | .tup l=>rigCL l
  | x=>rigC x
def rigU:Upd→Bool
  | []=>true
  | (_,.row _ _ cs)::r=>match rigPs cs with
    | true=>rigU r
    | false=>false
  | _=>false
theorem rigCL_at:∀ {l:List AV},rigCL l=true→∀ i (h:i<l.length),rigC l[i]=true
  | [],_,i,h=>by simp at h
  | x::r,hr,i,h=>by
    unfold rigCL at hr
    split at hr
    · cases i with
      | zero=>assumption
      | succ i=>exact rigCL_at hr i (by simpa using h)
    · cases hr

theorem ofCells_tup{cs l:List AV}(h:ofCells cs = .tup l):False:=by
  unfold ofCells at h;split at h <;> cases h
theorem view_tup{m:Mem}{x:AV}{l:List AV}(h:view m x=some (.tup l)):False:=by
  cases x with
  | agg cs =>
    simp only [view] at h
    split at h
    · injection h with h;exact ofCells_tup h
    · cases h
  | fn f a b =>
    simp only [view] at h
    split at h
    · split at h <;> cases h
    · cases h
  | ptr id off =>
    simp only [view] at h
    split at h
    · cases h
    · split at h <;> cases h
    · cases h
  | own id=>simp only [view] at h;split at h <;> cases h
  | arr id off n=>simp only [view] at h;split at h <;> cases h
  | _=>simp [view] at h

theorem outX_sound{C2:Cx}{M2:Mem}{m:Mem}{Ck:Cx}{base k:Nat}{A:Prop}(hM:MemOK P Ck m w')
    (hA:A→(∀ b,Ck.F b→C2.F b)∧∀ (id:Nat) (o:AO) (b:Nat),m[id]? = some (some o)→o.live=true→Ck.ι id=some b→C2.F b)
    (hk:∀ u,Rep C' M1 w' (.own k) u→Rep C2 M2 w' (.own base) u) (hL:Le C' Ck M1 m w' w') {x y:AV} {u:Value} (h:Rep C' M1 w' x u) (hx:outX m base k x=some y) (hr:A∨rigC y=true):Rep C2 M2 w' y u:=by
  have sv:∀ {x y:AV} {u:Value},Rep C' M1 w' x u→view m x=some y→(A∨rigC y=true)→Rep C2 M2 w' y u:=fun {x y u} h hv hr=>by
    rcases hr with hr | hr
    · obtain ⟨h1,h2⟩:=hA hr
      have:=view_sound hM h1 h2 (h.mono hL) hv
      have hle:Le (Ck.bare C2.F) C2 [] M2 w' w':=⟨fun _ _ h=>by simp at h,fun _ _ h=>by simp at h,fun _ _ h=>by simp at h,fun _ h=>h,fun _ _=>rfl⟩
      exact this.mono hle
    · have:=view_sound (G:=fun b=>Ck.F b∨∃ (id:Nat) (o:AO),m[id]? = some (some o)∧o.live=true∧Ck.ι id=some b) hM (fun _ h => .inl h) (fun id o b h1 h2 h3 => .inr ⟨id,o,h1,h2,h3⟩) (h.mono hL) hv
      cases y with
      | own id=>cases this with | own _ _ _ ha _=>obtain ⟨o,ho⟩:=ha;simp at ho
      | _=>exact this.rig hr
  unfold outX at hx
  split at hx
  · rename_i id
    split at hx
    · rename_i hb
      cases hx
      have:=Nat.eq_of_beq_eq_true hb
      subst this
      exact hk u h
    · exact sv h hx hr
  · exact sv h hx hr

theorem outXL_sound{C2:Cx}{M2:Mem}{m:Mem}{Ck:Cx}{base k:Nat}{A:Prop}(hM:MemOK P Ck m w')
    (hA:A→(∀ b,Ck.F b→C2.F b)∧∀ (id:Nat) (o:AO) (b:Nat),m[id]? = some (some o)→o.live=true→Ck.ι id=some b→C2.F b)
    (hk:∀ u,Rep C' M1 w' (.own k) u→Rep C2 M2 w' (.own base) u) (hL:Le C' Ck M1 m w' w'):∀ {l ys:List AV} {us:Nat→Value},(∀ i (h:i<l.length),Rep C' M1 w' l[i] (us i))→outXL m base k l=some ys→(A∨rigCL ys=true) →
      ys.length=l.length∧∀ i (h:i<ys.length),Rep C2 M2 w' ys[i] (us i)
  | [],ys,us,_,hx,_=>by cases hx;exact ⟨rfl,fun i h=>by simp at h⟩
  | x::r,ys,us,h,hx,hr=>by
    unfold outXL at hx
    split at hx
    · rename_i y h1
      split at hx
      · rename_i l h2
        cases hx
        have hr1:A∨rigC y=true:=hr.imp id fun hr=>rigCL_at (l:=y::l) hr 0 (by simp)
        have hr2:A∨rigCL l=true:=hr.imp id fun hr=>by
          unfold rigCL at hr
          split at hr
          · exact hr
          · cases hr
        obtain ⟨q1,q2⟩:=outXL_sound hM hA hk hL (us:=fun i=>us (i+1)) (fun i hi=>h (i+1) (by simpa using hi)) h2 hr2
        refine ⟨by simp [q1],fun i hi => ?_⟩
        cases i with
        | zero=>exact outX_sound hM hA hk hL (h 0 (by simp)) h1 hr1
        | succ i=>exact q2 i (by simpa using hi)
      · cases hx
    · cases hx

theorem outK_sound{C2:Cx}{M2:Mem}{m:Mem}{Ck:Cx}{base k:Nat}{A:Prop}(hM:MemOK P Ck m w')
    (hA:A→(∀ b,Ck.F b→C2.F b)∧∀ (id:Nat) (o:AO) (b:Nat),m[id]? = some (some o)→o.live=true→Ck.ι id=some b→C2.F b)
    (hk:∀ u,Rep C' M1 w' (.own k) u→Rep C2 M2 w' (.own base) u) (hL:Le C' Ck M1 m w' w') {x y:AV} {u:Value} (h:Rep C' M1 w' x u) (hx:outK m base k x=some y) (hr:A∨rigA y=true):Rep C2 M2 w' y u:=by
  unfold outK at hx
  split at hx
  · rename_i l
    split at hx
    · rename_i ys hy
      cases hx
      cases h with
      | tup _ vs h1 h2 =>
        obtain ⟨q1,q2⟩:=outXL_sound hM hA hk hL (us:=fun i=>vs.getD i undef) h2 hy hr
        exact .tup _ _ (by omega) q2
    · cases hx
  · rename_i hn
    refine outX_sound hM hA hk hL h hx (hr.imp id fun hr => ?_)
    unfold rigA at hr
    split at hr
    · exfalso
      unfold outX at hx
      split at hx
      · split at hx
        · cases hx
        · exact view_tup hx
      · exact view_tup hx
    · exact hr

theorem call_lift{f:Nat}{args args':List AV}{r y:AV}{L:Upd}{base:Nat}(hm:noRefL args=true∧args'=args∨viewL M args=some args'∧rigA y=true∧rigU L=true)(hb:freeB M base=true)
    (ho:outP M1 base r=some (y,L)) (h:FMM P f args' [] r M1):FM P f args M y L:=by
  intro C w us hus hM n
  obtain ⟨G,hG,hGs,hA,hus'⟩:∃ G:Nat→Prop,(∀ b,C.F b→G b)∧(∀ b,G b→b<w.heap.size)∧((∀ b,G b→C.F b)∨rigA y=true∧rigU L=true)∧RepL (C.bare G) [] w args' us:=by
    rcases hm with ⟨hn,rfl⟩ | ⟨hv,hr1,hr2⟩
    · refine ⟨C.F,fun _ h=>h,hM.Fs,.inl fun _ h=>h,?_⟩
      have:∀ {l:List AV} {us:List Value},noRefL l=true→RepL C M w l us→RepL (C.bare C.F) [] w l us:=by
        intro l
        induction l with
        | nil=>intro us _ h;cases h;exact .nil
        | cons x l ih =>
          intro us hn h
          cases h with
          | cons _ u _ k hx hr =>
            have h0:=noRefL_at hn 0 (by simp)
            unfold noRefL at hn
            split at hn
            · exact .cons _ _ _ _ (hx.noRef h0 (fun _ h=>h) (fun _ _=>rfl)) (ih hn hr)
            · cases hn
      exact this hn hus
    · refine ⟨fun b=>C.F b∨∃ (id:Nat) (o:AO),M[id]? = some (some o)∧o.live=true∧C.ι id=some b,fun _ h => .inl h,fun b h => ?_,.inr ⟨hr1,hr2⟩,?_⟩
      · rcases h with h | ⟨id,o,h1,h2,h3⟩
        · exact hM.Fs b h
        · exact hM.lt id o b h1 h2 h3
      · obtain ⟨q1,q2⟩:=viewL_sound (G:=fun b=>C.F b∨∃ (id:Nat) (o:AO),M[id]? = some (some o)∧o.live=true∧C.ι id=some b) hM (fun _ h => .inl h) (fun id o b h1 h2 h3 => .inr ⟨id,o,h1,h2,h3⟩) (us:=fun i=>us.getD i undef) (fun i hi=>hus.at i hi) hv
        have:=RepL.ofArr (l:=args') (us:=us.toArray) (by simp [hus.len,q1]) (fun i hi=>by rw [list_toArray_getD];exact q2 i hi)
        exact this
  have hM0:MemOK P (C.bare G) [] w:=⟨fun _ _ _ _ h=>by simp at h,fun _ _ _ h=>by simp at h,fun _ _ _ h=>by simp at h,fun _ _ _ _ _ h=>by simp at h,fun _ _ _ h=>by simp at h,hGs,fun _ _ _ h=>by simp at h⟩
  refine (h (C.bare G) w us hus' hM0 n).mono ?_
  rintro e w' ⟨u,rfl,C',hF,hM1,hr⟩
  refine ⟨u,rfl,?_⟩
  have hkeep:∀ b,b<w.heap.size→w'.heap[b]? = w.heap[b]? := fun b hb=>hF.keep b hb (fun id o h=>by simp at h)
  have hnew:∀ (id:Nat) (o:AO) (b:Nat),M1[id]? = some (some o)→o.live=true→C'.ι id=some b→w.heap.size≤b:=fun id o b h1 h2 h3=>by
    rcases hF.new id o b h1 h2 h3 with h4 | ⟨_,_,h4,_⟩
    · exact h4
    · simp at h4
  have hF2:∀ b,C'.F b→G b∨w.heap.size≤b:=fun b hb=>by
    rcases hF.F2 b hb with h4 | h4 | ⟨_,_,h4,_⟩
    · exact .inl h4
    · exact .inr h4
    · simp at h4
  have hfree:=freeB_inv hb
  unfold outP at ho
  split at ho
  · rename_i k hk
    split at ho
    · rename_i q hq
      split at ho
      · rename_i y' hy
        cases ho
        have hok:=rowAt_inv hq
        have hmk:=mem_kill hM1 (id:=k) false hok rfl
        have hlk:=hM1.le (fr_kill (C:=C') (w:=w') (id:=k) false hok rfl)
        obtain ⟨f1,m1⟩:=fr_after (C:=C) (M:=M) (w:=w) (w':=w') (kb:=C'.ι k) hM hF.os hF.tape hF.out hF.size hkeep
        have hAA:(∀ b,G b→C.F b)→(∀ b,(C'.close k false).F b→(C.after w w' (C'.ι k)).F b)∧∀ (id:Nat) (o:AO) (b:Nat),(upds M1 [(k,.dead)])[id]? = some (some o)→o.live=true→(C'.close k false).ι id=some b→(C.after w w' (C'.ι k)).F b:=by
          intro hGC
          refine ⟨fun b hb => ?_,fun id o b h1 h2 h3 => ?_⟩
          · have hb':C'.F b:=by rcases hb with hb | ⟨hb,_⟩;exact hb;cases hb
            rcases hF2 b hb' with h4 | h4
            · exact .inl (hGC b h4)
            · exact .inr ⟨h4,hM1.Fs b hb',fun e=>hM1.nF _ _ _ hok rfl e hb'⟩
          · simp only [upds] at h1
            have hne:k≠id:=fun e=>by subst e;rw [setAt_same] at h1;cases h1;cases h2
            have h1':=(setAt_other M1 k id _ _ hne).1 h1
            exact .inr ⟨hnew id o b h1' h2 h3,hM1.lt id o b h1' h2 h3,fun e=>hne (hM1.inj _ _ _ _ _ hok rfl h1' h2 e h3)⟩
        cases hkb:C'.ι k with
        | none =>
          rw [hkb] at hAA f1 m1
          obtain ⟨hz,hcs⟩:q.2.1=0∧q.2.2=[]:=by
            rcases hM1.row _ _ _ _ hok with ⟨_,hz,hcs⟩ | ⟨b,_,_,hb,_⟩
            · exact ⟨hz,hcs⟩
            · rw [hkb] at hb;cases hb
          rw [hz,hcs]
          have m2:=mem_none (ty:=q.1) m1 hfree
          have f2:=fr_none (ty:=q.1) (C:=C.after w w' none) (w:=w') hfree
          have hle:=m1.le f2
          refine ⟨_,f1.trans f2,m2,?_⟩
          refine outK_sound (C2:=(C.after w w' none).nil base) (M2:=upds M [(base,.row q.1 0 [])]) (A:=∀ b,G b→C.F b) hmk (fun h=>⟨fun b hb=>(hAA h).1 b hb,fun id o b h1 h2 h3=>(hAA h).2 id o b h1 h2 h3⟩) (fun v hv => ?_) hlk hr hy (hA.imp id (·.1))
          cases hv with
          | own _ _ h0 ha hrow =>
            rcases hrow _ _ _ hok with ⟨rfl,_,_⟩ | ⟨b,_,hb⟩
            · exact .own base _ rfl ⟨_,setAt_same ..⟩ (fun ty n cs h=>by simp only [upds] at h;rw [setAt_same] at h;cases h;exact .inl ⟨rfl,by simp [Cx.nil],rfl⟩)
            · rw [hkb] at hb;cases hb
        | some b =>
          rw [hkb] at hAA f1 m1
          rcases hM1.row _ _ _ _ hok with ⟨hn,_⟩ | ⟨b',arr,inf,hb',q1,q2,q3,q4,q5,q6,q7,q8⟩
          · rw [hkb] at hn;cases hn
          rw [hkb] at hb';cases hb'
          have hbn:=hnew k _ b hok rfl hkb
          have hbl:=hM1.lt k _ b hok rfl hkb
          have hcell:∀ j (h:j<q.2.2.length),RepP (C.after w w' (some b)).F w' q.2.2[j] (arr.getD j undef):=fun j hj=>by
            rcases hA with hGC | ⟨_,hr2⟩
            · exact (q7 j hj).mono (fun b hb=>(hAA hGC).1 b (.inl hb)) (fun _ _=>rfl)
            · simp only [rigU] at hr2
              split at hr2
              · rename_i hcs
                exact (q7 j hj).rig (rigPs_at hcs j hj)
              · cases hr2
          obtain ⟨m2,hl2⟩:=mem_take (base:=base) (b:=b) (k:=C'.κ k) (ty:=q.1) (n:=q.2.1) (cs:=q.2.2) m1 hfree (fun hF=>by
            rcases hF with hF | ⟨_,_,hF⟩
            · have:=hM.Fs b hF;omega
            · exact hF rfl) (fun i x j h1 h2 h3=>by have:=hM.lt i x j h1 h2 h3;omega) hbl ⟨arr,inf,q1,q2,q3,q4,q5,q6,hcell,q8⟩
          refine ⟨_,?_,m2,?_⟩
          · have hne:∀ (i:Nat) (x:AO),M[i]? = some (some x)→i≠base:=fun i x h e=>hfree x (e ▸ h)
            refine ⟨f1.os,f1.tape,f1.out,f1.size,f1.keep,fun i x h=>⟨hl2.ids i x h,by simp [Cx.grow,Cx.after,hne i x h],by simp [Cx.grow,Cx.after,hne i x h]⟩,hl2.row,fun i x h o' h1 h2=>(hl2.liv i x h o' h1 h2).1,fun i x j h1 h2 h3 => ?_,f1.F1,f1.F2⟩
            by_cases e:i=base
            · subst e
              simp only [Cx.grow,if_true] at h3
              cases h3
              exact .inl hbn
            · simp only [Cx.grow,e,if_false] at h3
              exact f1.new i x j ((setAt_other M base i _ _ (fun e'=>e e'.symm)).1 h1) h2 h3
          · refine outK_sound (C2:=(C.after w w' (some b)).grow base b (C'.κ k)) (M2:=upds M [(base,.row q.1 q.2.1 q.2.2)]) (A:=∀ b,G b→C.F b) hmk (fun h=>⟨fun b hb=>(hAA h).1 b hb,fun id o b h1 h2 h3=>(hAA h).2 id o b h1 h2 h3⟩) (fun v hv => ?_) hlk hr hy (hA.imp id (·.1))
            cases hv with
            | own _ _ h0 ha hrow =>
              rcases hrow _ _ _ hok with ⟨_,hn,_⟩ | ⟨b',rfl,hb⟩
              · rw [hkb] at hn;cases hn
              · rw [hkb] at hb;cases hb
                exact .own base _ rfl ⟨_,setAt_same ..⟩ (fun ty n cs h=>by simp only [upds] at h;rw [setAt_same] at h;cases h;exact .inr ⟨b,by simp [Cx.grow],by simp [Cx.grow]⟩)
      · cases ho
    · cases ho
  · rename_i hk
    split at ho
    · rename_i y' hy
      cases ho
      obtain ⟨f1,m1⟩:=fr_after (C:=C) (M:=M) (w:=w) (w':=w') (kb:=none) hM hF.os hF.tape hF.out hF.size hkeep
      refine ⟨_,f1,m1,?_⟩
      refine outK_sound (C2:=C.after w w' none) (M2:=upds M []) (A:=∀ b,G b→C.F b) hM1 (fun hGC=>⟨fun b hb => ?_,fun id o b h1 h2 h3 => .inr ⟨hnew id o b h1 h2 h3,hM1.lt id o b h1 h2 h3,nofun⟩⟩) (fun v hv => ?_) ⟨fun i o h=>⟨o,h⟩,fun _ _ _ _ _ cs h=>⟨cs,h⟩,fun _ o h o' h' hl=>by rw [h] at h';cases h';exact ⟨hl,rfl,rfl⟩,fun _ h=>h,fun _ _=>rfl⟩ hr hy (hA.imp id (·.1))
      · rcases hF2 b hb with h4 | h4
        · exact .inl (hGC b h4)
        · exact .inr ⟨h4,hM1.Fs b hb,nofun⟩
      · cases hv with
        | own _ _ h0 ha hrow =>
          obtain ⟨o,ho⟩:=ha
          rw [List.getElem?_eq_none (Nat.le_refl _)] at ho
          cases ho
    · cases ho
end
section
variable {P:Program} {T:TT} {E:Env} {C C':Cx} {M M1 M2:Mem} {w w':World}

def Eqv(M1 M2:Mem):Prop:=∀ (id:Nat) (o:AO),M1[id]? = some (some o)↔M2[id]? = some (some o)

theorem Eqv.le(h:Eqv M1 M2):Le C C M1 M2 w w :=
  ⟨fun id o ho=>⟨o,(h id o).1 ho⟩,fun id _ _ ty n cs hm=>⟨cs,(h id _).2 hm⟩,fun id o ho o' ho' hl=>by
    have:=(h id o').2 ho'
    rw [ho] at this;cases this
    exact ⟨hl,rfl,rfl⟩,fun _ h=>h,fun _ _=>rfl⟩
theorem Eqv.fr{C0:Cx}{M0:Mem}{w0:World}(h:Eqv M1 M2)(hF:Fr C0 M0 w0 C M1 w):Fr C0 M0 w0 C M2 w :=
  ⟨hF.os,hF.tape,hF.out,hF.size,hF.keep,fun i o ho=>by
    obtain ⟨⟨o',h1⟩,h2⟩:=hF.ids i o ho
    exact ⟨⟨o',(h _ _).1 h1⟩,h2⟩,fun i o ho ty n cs hm=>hF.row i o ho ty n cs ((h _ _).2 hm),fun i o ho o' hm=>hF.liv i o ho o' ((h _ _).2 hm),fun i o b hm=>hF.new i o b ((h _ _).2 hm),hF.F1,hF.F2⟩

end
section
variable {P:Program} {T:TT} {E:Env} {C C0:Cx} {M M0:Mem} {w w0:World}

def LoopOK(P:Program)(k:Nat)(b:Code)(st:St)(e:Ex)(st':St):Prop:=∀ (C0:Cx) (M0:Mem) (w0:World) (a:Act) (w:World),M0.length≤k→Sim P C0 M0 w0 st a w→∀ (ro:Option Nat),RoOK ro b→∀ (n:Nat),LoopIn (Fen ro) n P b (fun e' a' w'=>e'=e.toExit∧Sim P C0 M0 w0 st' a' w') a w

section
variable {k:Nat} {b:Code} {st st1 st':St} {e:Ex}
theorem LoopOK.step(h:CodeOK P k b st .normal st1)(hr:LoopOK P k b st1 e st'):LoopOK P k b st e st':=fun C0 M0 w0 a w hk hs ro hro n=>LoopIn.step (wpIn_mono (h C0 M0 w0 a w hk hs ro hro n) fun e' a' w' hq=>by
  obtain ⟨rfl,hs'⟩:=hq
  exact hr C0 M0 w0 a' w' hk hs' ro hro n)
theorem LoopOK.exit(h:CodeOK P k b st e st')(he:e ≠ .normal):LoopOK P k b st e st':=fun C0 M0 w0 a w hk hs ro hro n=>LoopIn.step (wpIn_mono (h C0 M0 w0 a w hk hs ro hro n) fun e' a' w' hq=>by
  obtain ⟨rfl,hs'⟩:=hq
  cases e with
  | normal=>exact absurd rfl he
  | ret=>exact ⟨rfl,hs'⟩
  | exit id=>exact ⟨rfl,hs'⟩)
theorem LoopOK.code(h:LoopOK P k b st e st'):CodeOK P k (.loop b) st e st':=fun C0 M0 w0 a w hk hs ro hro n=>LoopIn.wp (h C0 M0 w0 a w hk hs ro hro.loop n)
theorem LoopOK.pre{g:Gh}(hg:gh k g st=some st1)(h:LoopOK P k b st1 e st'):LoopOK P k b st e st':=fun C0 M0 w0 a w hk hs ro hro n=>h C0 M0 w0 a w hk (gh_sound hk hg hs) ro hro n

theorem LoopOK.range{α β:Type}(S:Nat→β→St)(R:β→St)(f:β→α→β)(Inv:Nat→β→Prop)(he:e ≠ .normal)(l:List α){a0:β}(h0:Inv 0 a0)
    (hs:∀ (i:Nat) (x:α) (acc:β),l[i]? = some x→Inv i acc→Inv (i+1) (f acc x)∧CodeOK P k b (S i acc) .normal (S (i+1) (f acc x)))
    (hx:∀ acc,Inv l.length acc→CodeOK P k b (S l.length acc) e (R acc)):LoopOK P k b (S 0 a0) e (R (l.foldl f a0)):=by
  have key:∀ (r:List α) (i:Nat) (acc:β),l.drop i=r→i≤l.length→Inv i acc→LoopOK P k b (S i acc) e (R (r.foldl f acc)):=by
    intro r
    induction r with
    | nil =>
      intro i acc hd hi hI
      have:i=l.length:=by have:=congrArg List.length hd;simp at this;omega
      subst this
      exact .exit (hx _ hI) he
    | cons x r ih =>
      intro i acc hd hi hI
      have hl:l[i]? = some x:=by
        have:=congrArg (·[0]?) hd
        simpa using this
      obtain ⟨h1,h2⟩:=hs i x acc hl hI
      have hlt:i<l.length:=(List.getElem?_eq_some_iff.1 hl).1
      refine .step h2 (ih (i+1) _ ?_ (by omega) h1)
      have:=congrArg List.tail hd
      simpa [List.tail_drop] using this
  exact key l 0 a0 (by simp) (Nat.zero_le _) h0

end

def FV(P:Program)(f:Nat)(args:List AV)(base:Nat)(y:AV)(L:Upd):Prop:=∃ r M1,FMM P f args [] r M1∧outP M1 base r=some (y,L)

theorem FV.fc{f base:Nat}{args:List AV}{y:AV}{L:Upd}{bs:List (Nat × AO)}(h:FV P f args base y L)(hn:noRefL args=true):FC P f args bs base y L:=fun M _ hb=>by
  obtain ⟨r,M1,h1,h2⟩:=h
  exact call_lift (.inl ⟨hn,rfl⟩) hb h2 h1

def SubM(m M:Mem):Prop:=∀ (id:Nat) (o:AO),objAt m id=some o→objAt M id=some o
section
variable {m:Mem}
theorem sub_row(hs:SubM m M){id:Nat}{r:Nat × Nat × List PV}(h:rowAt m id=some r):rowAt M id=some r:=by
  have:=objAt_iff.2 (rowAt_inv h)
  unfold rowAt
  rw [hs _ _ this]
theorem sub_view1(hs:SubM m M){x:AV}{y:PV}(h:view1 m x=some y):view1 M x=some y:=by
  unfold view1 at h ⊢
  split at h
  · exact h
  · exact h
  · split at h
    · rename_i hr
      rw [sub_row hs hr];exact h
    · cases h
  · cases h
theorem sub_viewC(hs:SubM m M):∀ {l:List AV} {ys:List PV},viewC m l=some ys→viewC M l=some ys
  | [],_,h=>h
  | x::r,ys,h=>by
    unfold viewC at h ⊢
    split at h
    · rename_i h1
      split at h
      · rename_i h2
        rw [sub_view1 hs h1,sub_viewC hs h2];exact h
      · cases h
    · cases h
mutual
theorem sub_view(hs:SubM m M):∀ {x y:AV},view m x=some y→view M x=some y
  | .p x,y,h=>by simp only [view] at h ⊢;exact h
  | .kb b,y,h=>by simp only [view] at h ⊢;exact h
  | .any,y,h=>by simp only [view] at h ⊢;exact h
  | .yld l,y,h=>by simp only [view] at h ⊢;exact h
  | .rp cs o,y,h=>by simp only [view] at h ⊢;exact h
  | .own id,y,h=>by
    simp only [view] at h ⊢
    split at h
    · rename_i hr
      rw [sub_row hs hr];exact h
    · cases h
  | .arr id off n,y,h=>by
    simp only [view] at h ⊢
    split at h
    · rename_i hr
      rw [sub_row hs hr];exact h
    · cases h
  | .ptr id off,y,h=>by
    simp only [view] at h ⊢
    split at h
    · rename_i hr
      rw [hs _ _ hr];exact h
    · rename_i hr
      rw [hs _ _ hr]
      split at h
      · rename_i hc
        simp only [sub_viewC hs hc];exact h
      · cases h
    · cases h
  | .agg l,y,h=>by
    simp only [view] at h ⊢
    split at h
    · rename_i hr
      rw [sub_viewL hs hr];exact h
    · cases h
  | .fn f a b,y,h=>by
    simp only [view] at h ⊢
    split at h
    · rename_i ha
      split at h
      · rename_i hb
        rw [sub_viewL hs ha,sub_viewL hs hb];exact h
      · cases h
    · cases h
  | .tup l,y,h=>by simp [view] at h
  | .mp i,y,h=>by simp [view] at h
theorem sub_viewL(hs:SubM m M):∀ {l ys:List AV},viewL m l=some ys→viewL M l=some ys
  | [],_,h=>by simp only [viewL] at h ⊢;exact h
  | x::r,ys,h=>by
    simp only [viewL] at h ⊢
    split at h
    · rename_i h1
      split at h
      · rename_i h2
        rw [sub_view hs h1,sub_viewL hs h2];exact h
      · cases h
    · cases h
end
end
theorem upds_mem:∀ (bs:Upd) (m:Mem) (id:Nat) (o:AO),objAt (upds m bs) id=some o→(id,o)∈bs∨objAt m id=some o
  | [],_,_,_,h => .inr h
  | (i,x)::r,m,id,o,h=>by
    rcases upds_mem r _ id o h with h1 | h1
    · exact .inl (List.mem_cons_of_mem _ h1)
    · rw [objAt_setAt] at h1
      split at h1
      · rename_i e
        subst e
        cases h1
        exact .inl (List.mem_cons_self ..)
      · exact .inr h1
theorem FV.view{f base:Nat}{args args':List AV}{y:AV}{L:Upd}{bs:List (Nat × AO)}(h:FV P f args' base y L)(hv:viewL (upds [] bs) args=some args')(h1:rigA y=true)(h2:rigU L=true):FC P f args bs base y L:=fun M hb hf=>by
  obtain ⟨r,M1,h3,h4⟩:=h
  refine call_lift (.inr ⟨sub_viewL (fun id o ho => ?_) hv,h1,h2⟩) hf h4 h3
  rcases upds_mem bs [] id o ho with h5 | h5
  · exact hb _ h5
  · simp [objAt] at h5
end
section

inductive Tr (α:Type) where
  | nil
  | node (v:Option α) (l r:Tr α)
def Tr.get{α:Type}:Tr α→Nat→Option α
  | .nil,_=>none
  | .node v l r,k=>match Nat.beq k 0 with
    | true=>v
    | false=>match Nat.beq (Nat.mod k 2) 1 with
      | true=>l.get (Nat.div k 2)
      | false=>r.get (Nat.sub (Nat.div k 2) 1)
def Tr.all{α:Type}(f:Nat→Nat):Tr α→List (Nat × α)
  | .nil=>[]
  | .node v l r=>(match v with | some x=>[(f 0,x)] | none=>[])++l.all (fun k=>f (2*k+1))++r.all (fun k=>f (2*k+2))
theorem Tr.get_all{α:Type}:∀ (t:Tr α) (f:Nat→Nat) (k:Nat) (x:α),t.get k=some x→(f k,x)∈t.all f
  | .nil,_,_,_,h=>by cases h
  | .node v l r,f,k,x,h=>by
    unfold Tr.get at h
    unfold Tr.all
    split at h
    · rename_i hb
      have hk:=Nat.eq_of_beq_eq_true hb
      subst hk
      subst h
      exact List.mem_append_left _ (List.mem_append_left _ (List.mem_cons_self ..))
    · rename_i hb
      have hk:=Nat.ne_of_beq_eq_false hb
      split at h
      · rename_i h1
        have h1:k % 2=1:=Nat.eq_of_beq_eq_true h1
        have:=Tr.get_all l (fun k=>f (2*k+1)) _ x h
        refine List.mem_append_left _ (List.mem_append_right _ ?_)
        have e:2*(k / 2)+1=k:=by omega
        have e':2*Nat.div k 2+1=k:=e
        simp only [e'] at this
        exact this
      · rename_i h1
        have h1:k % 2≠1:=Nat.ne_of_beq_eq_false h1
        have:=Tr.get_all r (fun k=>f (2*k+2)) _ x h
        refine List.mem_append_right _ ?_
        have e:2*(k / 2-1)+2=k:=by omega
        have e':2*Nat.sub (Nat.div k 2) 1+2=k:=e
        simp only [e'] at this
        exact this

abbrev tq0:Option TI:=some ⟨.func,1,8,[.nilFunc],true⟩
abbrev tq1:Option TI:=some ⟨.struct [(0,3,true),(1,3,true),(2,3,true),(3,3,true)],4,32,[.int .i64 0,.int .i64 0,.int .i64 0,.int .i64 0],true⟩
abbrev tq2:Option TI:=some ⟨.int .i64,1,8,[.int .i64 0],true⟩
abbrev tq3:Option TI:=some ⟨.int .u8,1,1,[.int .u8 0],true⟩
abbrev tq4:Option TI:=some ⟨.struct [(0,3,true),(1,3,true),(2,3,true)],3,24,[.int .i64 0,.int .i64 0,.int .i64 0],true⟩
abbrev tq5:Option TI:=some ⟨.int .u64,1,8,[.int .u64 0],true⟩
abbrev tq6:Option TI:=some ⟨.str,1,16,[.string { data := #[] }],true⟩
abbrev tq7:Option TI:=some ⟨.struct [(0,3,true),(1,3,true),(2,3,true),(3,22,true),(4,23,true)],5,72,[.int .i64 0,.int .i64 0,.int .i64 0,.slice none 0 0,.slice none 0 0],true⟩
abbrev tq8:Option TI:=some ⟨.struct [(0,2,true),(1,3,true),(2,4,true),(3,6,true)],4,24,[.int .i64 0,.int .i64 0,.bool false,.int .u8 0],true⟩
abbrev tq9:Option TI:=some ⟨.struct [(0,17,true)],1,8,[.pointer none],false⟩
abbrev tq10:Option TI:=some ⟨.struct [(0,3,true),(1,3,true)],2,16,[.int .i64 0,.int .i64 0],true⟩
abbrev tq11:Option TI:=some ⟨.struct [(0,201,true),(1,3,true),(2,3,true)],3,24,[.nilFunc,.int .i64 0,.int .i64 0],true⟩
abbrev tq12:Option TI:=some ⟨.struct [(0,25,true)],5,72,[.int .i64 0,.int .i64 0,.int .i64 0,.slice none 0 0,.slice none 0 0],true⟩
abbrev tq13:Option TI:=some ⟨.struct [(0,3,true),(1,143,true)],62,496,.int .i64 0::List.replicate 61 (.int .i64 0),true⟩
abbrev tq14:Option TI:=some ⟨.struct [(0,151,true)],1,8,[.nilFunc],true⟩
abbrev tq15:Option TI:=some ⟨.struct [(0,44,true),(1,3,true),(2,139,true)],3,40,[.slice none 0 0,.int .i64 0,.int .u32 0],true⟩
def tTr:Tr TI := .node none (.node tq0 (.node tq2 (.node tq8 (.node (some ⟨.ptr 233,1,8,[.pointer none],true⟩) (.node tq2 (.node tq0 (.node tq0 .nil .nil) (.node tq0 .nil .nil)) (.node tq0 (.node tq0 .nil .nil) (.node tq0 .nil .nil))) (.node tq0 (.node tq0 (.node (some ⟨.array 61 3,61,488,.int .i64 0::List.replicate 60 (.int .i64 0),true⟩) .nil .nil) (.node tq0 .nil .nil)) (.node tq0 (.node tq0 .nil .nil) (.node tq3 .nil .nil)))) (.node (some ⟨.slice 22,1,24,[.slice none 0 0],true⟩) (.node tq1 (.node none (.node tq0 .nil .nil) (.node tq0 .nil .nil)) (.node tq0 (.node tq0 .nil .nil) (.node tq0 .nil .nil))) (.node tq0 (.node none (.node tq0 .nil .nil) (.node tq0 .nil .nil)) (.node tq4 (.node tq0 .nil .nil) .nil)))) (.node tq6 (.node tq9 (.node none (.node tq0 (.node tq0 .nil .nil) (.node tq0 .nil .nil)) (.node tq0 (.node tq10 .nil .nil) (.node (some ⟨.ptr 218,1,8,[.pointer none],true⟩) .nil .nil))) (.node tq0 (.node tq0 (.node tq0 .nil .nil) (.node tq0 .nil .nil)) (.node tq0 (.node tq0 .nil .nil) .nil))) (.node tq0 (.node tq0 (.node tq0 (.node (some ⟨.int .u32,1,4,[.int .u32 0],true⟩) .nil .nil) (.node tq11 .nil .nil)) (.node tq0 (.node tq0 .nil .nil) (.node (some ⟨.struct [(0,234,false)],0,0,[],false⟩) .nil .nil))) (.node (some ⟨.map 3 4,1,8,[.map none],true⟩) (.node tq0 (.node tq0 .nil .nil) (.node tq0 .nil .nil)) (.node tq0 (.node tq0 .nil .nil) .nil))))) (.node tq3 (.node tq6 (.node (some ⟨.ptr 245,1,8,[.pointer none],true⟩) (.node tq0 (.node tq0 (.node tq12 .nil .nil) .nil) (.node tq0 (.node (some ⟨.slice 164,1,24,[.slice none 0 0],true⟩) .nil .nil) (.node tq0 .nil .nil))) (.node tq0 (.node tq0 (.node tq13 .nil .nil) (.node tq0 .nil .nil)) (.node none (.node tq0 .nil .nil) .nil))) (.node tq7 (.node tq0 (.node none (.node tq0 .nil .nil) (.node tq0 .nil .nil)) (.node none (.node tq0 .nil .nil) .nil)) (.node none (.node none (.node tq14 .nil .nil) (.node tq0 .nil .nil)) (.node (some ⟨.slice 126,1,24,[.slice none 0 0],true⟩) (.node tq0 .nil .nil) .nil)))) (.node none (.node (some ⟨.int .i32,1,4,[.int .i32 0],true⟩) (.node tq7 (.node tq0 (.node (some ⟨.map 3 22,1,8,[.map none],true⟩) .nil .nil) (.node tq0 .nil .nil)) (.node tq0 (.node tq0 .nil .nil) (.node tq0 .nil .nil))) (.node tq0 (.node tq0 (.node tq0 .nil .nil) (.node tq0 .nil .nil)) (.node (some ⟨.slice 116,1,24,[.slice none 0 0],true⟩) (.node tq0 .nil .nil) .nil))) (.node tq0 (.node tq0 (.node tq0 (.node tq15 .nil .nil) (.node tq0 .nil .nil)) (.node tq0 (.node tq0 .nil .nil) (.node tq0 .nil .nil))) (.node tq1 (.node tq0 (.node tq0 .nil .nil) (.node tq0 .nil .nil)) (.node tq4 (.node tq0 .nil .nil) .nil)))))) (.node tq2 (.node (some ⟨.bool,1,1,[.bool false],true⟩) (.node tq8 (.node (some ⟨.ptr 236,1,8,[.pointer none],true⟩) (.node none (.node tq0 (.node tq12 .nil .nil) (.node tq2 .nil .nil)) (.node tq0 (.node tq0 .nil .nil) (.node tq0 .nil .nil))) (.node tq0 (.node tq0 (.node tq13 .nil .nil) (.node tq0 .nil .nil)) (.node tq0 (.node tq0 .nil .nil) .nil))) (.node tq7 (.node tq1 (.node tq0 (.node tq0 .nil .nil) (.node tq5 .nil .nil)) (.node tq0 (.node tq0 .nil .nil) .nil)) (.node (some ⟨.slice 61,1,24,[.slice none 0 0],true⟩) (.node tq0 (.node tq14 .nil .nil) (.node tq0 .nil .nil)) (.node tq4 (.node tq0 .nil .nil) .nil)))) (.node tq5 (.node none (.node tq0 (.node tq0 (.node tq0 .nil .nil) (.node tq0 .nil .nil)) (.node tq0 (.node tq10 .nil .nil) .nil)) (.node tq0 (.node tq0 (.node tq0 .nil .nil) (.node tq0 .nil .nil)) (.node (some ⟨.ptr 3,1,8,[.pointer none],true⟩) (.node (some ⟨.array 2 3,2,16,[.int .i64 0,.int .i64 0],true⟩) .nil .nil) .nil))) (.node tq0 (.node (some ⟨.slice 5,1,24,[.slice none 0 0],true⟩) (.node (some ⟨.slice 78,1,24,[.slice none 0 0],true⟩) (.node tq15 .nil .nil) (.node (some ⟨.array 3 203,9,72,[.nilFunc,.int .i64 0,.int .i64 0,.nilFunc,.int .i64 0,.int .i64 0,.nilFunc,.int .i64 0,.int .i64 0],true⟩) .nil .nil)) (.node tq0 (.node tq0 .nil .nil) (.node (some ⟨.struct [(0,234,false)],0,0,[],false⟩) .nil .nil))) (.node tq1 (.node tq0 (.node tq0 .nil .nil) (.node tq0 .nil .nil)) (.node tq0 (.node tq0 .nil .nil) .nil))))) (.node tq3 (.node tq6 (.node tq9 (.node (some ⟨.slice 39,1,24,[.slice none 0 0],true⟩) (.node tq0 .nil (.node tq0 .nil .nil)) (.node tq0 (.node tq0 .nil .nil) (.node tq0 .nil .nil))) (.node none (.node tq0 (.node tq0 .nil .nil) (.node tq0 .nil .nil)) (.node tq0 (.node tq5 .nil .nil) .nil))) (.node tq0 (.node tq0 (.node tq0 (.node tq0 .nil .nil) (.node tq11 .nil .nil)) (.node tq0 (.node tq0 .nil .nil) (.node (some ⟨.array 0 16,0,0,[],true⟩) .nil .nil))) (.node tq0 (.node tq0 (.node tq0 .nil .nil) (.node tq5 .nil .nil)) (.node none (.node tq0 .nil .nil) .nil)))) (.node none (.node (some ⟨.slice 3,1,24,[.slice none 0 0],true⟩) (.node tq1 (.node tq0 (.node tq0 .nil .nil) (.node tq0 .nil .nil)) (.node none (.node tq0 .nil .nil) (.node tq0 .nil .nil))) (.node tq0 (.node tq0 (.node tq0 .nil .nil) (.node tq0 .nil .nil)) (.node (some ⟨.slice 120,1,24,[.slice none 0 0],true⟩) (.node tq0 .nil .nil) .nil))) (.node (some ⟨.slice 40,1,24,[.slice none 0 0],true⟩) (.node (some ⟨.ptr 141,1,8,[.pointer none],true⟩) (.node tq1 (.node tq0 .nil .nil) (.node (some ⟨.slice 203,1,24,[.slice none 0 0],true⟩) .nil .nil)) (.node tq0 .nil (.node tq3 .nil .nil))) (.node none (.node tq0 (.node tq0 .nil .nil) (.node tq0 .nil .nil)) (.node tq4 (.node tq0 .nil .nil) .nil))))))
def tT:TT:=tTr.get

set_option maxRecDepth 100000 in
theorem tT_all:(tTr.all id).map (fun p=>tiOf Tryz.prog p.1)=(tTr.all id).map fun p=>some p.2:=by kernel_rfl
theorem tT_ok:∀ t i,tT t=some i→tiOf Tryz.prog t=some i:=fun t i h=>by
  have h1:=Tr.get_all tTr id t i h
  obtain ⟨j,hj,hx⟩:=List.getElem_of_mem h1
  have h2:=congrArg (fun l=>l[j]?) tT_all
  simp only [List.getElem?_map,List.getElem?_eq_getElem hj,hx,Option.map_some,id,Option.some.injEq] at h2
  exact h2

def okF(P:Program)(f:Nat):Bool:=match P.funcs[f]? with
  | some fn => !(fn.name == "runtime.NumGoroutine") && fn.body.isSome
  | none=>false
theorem okF_run{P:Program}{f:Nat}(h:okF P f=true)(args:Array Value)(w:World):(callFunc f args).run P w = .ok (.enter f args) w:=by
  unfold okF at h
  split at h
  · rename_i fn hf
    simp only [Bool.and_eq_true,Bool.not_eq_true'] at h
    have hn : ¬ fn.name = "runtime.NumGoroutine" := by simpa using h.1
    have hb:¬ fn.body=none:=fun e=>by rw [e] at h;cases h.2
    unfold callFunc
    simp [hf,hn,hb]
  · cases h
def ok(f:Nat):Bool:=match Nat.ble 2 f with
  | true=>Nat.ble f 226
  | false=>false
set_option maxRecDepth 100000 in
theorem ok_all:((List.range 227).drop 2).all (okF Tryz.prog)=true:=by kernel_rfl
theorem ok_run:∀ f,ok f=true→∀ args w,(callFunc f args).run Tryz.prog w = .ok (.enter f args) w:=fun f h=>by
  unfold ok at h
  split at h
  · rename_i h2
    have h2:=Nat.le_of_ble_eq_true h2
    have h3:=Nat.le_of_ble_eq_true h
    have:=ok_all
    rw [List.all_eq_true] at this
    refine okF_run (this f ?_)
    rw [List.mem_iff_getElem]
    exact ⟨f-2,by simp;omega,by simp;omega⟩
  · cases h
theorem mixed:Tryz.prog.follows .mixedOrders=true:=by kernel_rfl
end
section
variable {P:Program} {T:TT} {E:Env} {C C0:Cx} {M M0 M1:Mem} {w w0:World}

def bkI(ids:List Nat)(base j:Nat):Option Nat:=match ids[j]? with
  | some i=>some i
  | none=>match Nat.beq j ids.length with
    | true=>some base
    | false=>none
def outU(ids:List Nat)(base:Nat):List Nat→Mem→Option Upd
  | i::r,some o::m=>match mpO (bkI ids base) o with
    | some o'=>(outU ids base r m).map ((i,o') :: ·)
    | none=>none
  | [],[]=>some []
  | [],[some o]=>match mpO (bkI ids base) o with
    | some o'=>some [(base,o')]
    | none=>none
  | _,_=>none

theorem outU_spec{ids0:List Nat}{base:Nat}:∀ {ids:List Nat} {m:Mem} {L:Upd},outU ids0 base ids m=some L→ids.Nodup→base∉ids →
    (m.length=ids.length∨m.length=ids.length+1) ∧
    ∀ (N:Mem),(∀ (p i:Nat) (o':AO),ids[p]? = some i→(objAt (upds N L) i=some o'↔∃ o,m[p]? = some (some o)∧mpO (bkI ids0 base) o=some o')) ∧
      (m.length=ids.length+1→∀ (o':AO),(objAt (upds N L) base=some o'↔∃ o,m[ids.length]? = some (some o)∧mpO (bkI ids0 base) o=some o')) ∧
      (m.length=ids.length→objAt (upds N L) base=objAt N base) ∧
      ∀ j,j∉ids→j≠base→objAt (upds N L) j=objAt N j
  | [],[],L,h,_,_=>by
    unfold outU at h;cases h
    refine ⟨.inl rfl,fun N=>⟨fun p i o' hp=>by simp at hp,fun h=>by simp at h,fun _=>rfl,fun _ _ _=>rfl⟩⟩
  | [],[some o],L,h,_,_=>by
    unfold outU at h
    split at h
    · rename_i o' ho
      cases h
      refine ⟨.inr rfl,fun N=>⟨fun p i o' hp=>by simp at hp,fun _ o2 => ?_,fun h=>by simp at h,fun j _ hj => ?_⟩⟩
      · simp only [upds]
        rw [objAt_setAt,if_pos rfl]
        constructor
        · intro h;cases h;exact ⟨o,rfl,ho⟩
        · rintro ⟨o3,h3,h4⟩
          simp at h3;subst h3
          rw [ho] at h4;exact h4
      · simp only [upds]
        rw [objAt_setAt,if_neg (Ne.symm hj)]
    · cases h
  | i::r,some o::m,L,h,hd,hb=>by
    unfold outU at h
    split at h
    · rename_i o' ho
      simp only [Option.map_eq_some_iff] at h
      obtain ⟨L',hL',rfl⟩:=h
      obtain ⟨hd1,hd2⟩:=List.nodup_cons.1 hd
      have hb1:base≠i:=fun e=>hb (by simp [e])
      have hb2:base∉r:=fun e=>hb (List.mem_cons_of_mem _ e)
      obtain ⟨q1,q2⟩:=outU_spec (ids:=r) hL' hd2 hb2
      refine ⟨by simpa using q1,fun N => ?_⟩
      obtain ⟨r1,r2,r3,r4⟩:=q2 (setAt N i (some o'))
      refine ⟨fun p j o2 hp => ?_,fun hl o2 => ?_,fun hl => ?_,fun j hj hne => ?_⟩
      · cases p with
        | zero =>
          simp at hp;subst hp
          simp only [upds]
          rw [r4 i hd1 (Ne.symm hb1),objAt_setAt,if_pos rfl]
          constructor
          · intro h;cases h;exact ⟨o,rfl,ho⟩
          · rintro ⟨o3,h3,h4⟩
            simp at h3;subst h3
            rw [ho] at h4;exact h4
        | succ p =>
          simp only [upds]
          rw [List.getElem?_cons_succ] at hp
          rw [r1 p j o2 hp]
          rfl
      · have:=r2 (by simpa using hl) o2
        simpa [upds] using this
      · simp only [upds]
        rw [r3 (by simpa using hl),objAt_setAt,if_neg (Ne.symm hb1)]
      · simp only [upds]
        rw [r4 j (fun e=>hj (List.mem_cons_of_mem _ e)) hne,objAt_setAt,if_neg (fun e=>hj (by simp [e]))]
    · cases h
  | [],none::_,L,h,_,_=>by unfold outU at h;cases h
  | [],some _::_::_,L,h,_,_=>by unfold outU at h;cases h
  | _::_,[],L,h,_,_=>by unfold outU at h;cases h
  | _::_,none::_,L,h,_,_=>by unfold outU at h;cases h

theorem outU_all{ids0:List Nat}{base:Nat}:∀ {ids:List Nat} {m:Mem} {L:Upd},outU ids0 base ids m=some L→∀ (p:Nat) (o1:AO),m[p]? = some (some o1)→∃ o',mpO (bkI ids0 base) o1=some o'
  | [],[],L,h,p,o1,hp=>by simp at hp
  | [],[some o],L,h,p,o1,hp=>by
    unfold outU at h
    split at h
    · rename_i hx
      cases p with
      | zero=>simp at hp;subst hp;exact ⟨_,hx⟩
      | succ p=>simp at hp
    · cases h
  | i::r,some o::m,L,h,p,o1,hp=>by
    unfold outU at h
    split at h
    · rename_i hx
      simp only [Option.map_eq_some_iff] at h
      obtain ⟨L',hL',_⟩:=h
      cases p with
      | zero=>simp at hp;subst hp;exact ⟨_,hx⟩
      | succ p=>exact outU_all hL' p o1 (by simpa using hp)
    · cases h
  | [],none::_,L,h,_,_,_=>by unfold outU at h;cases h
  | [],some _::_::_,L,h,_,_,_=>by unfold outU at h;cases h
  | _::_,[],L,h,_,_,_=>by unfold outU at h;cases h
  | _::_,none::_,L,h,_,_,_=>by unfold outU at h;cases h

def Cx.back(C C1:Cx)(ids:List Nat)(base:Nat):Cx :=
  { ι:=fun j=>match idx ids j 0 with | some p=>C1.ι p | none=>if j=base then C1.ι ids.length else C.ι j
    κ:=fun j=>match idx ids j 0 with | some p=>C1.κ p | none=>if j=base then C1.κ ids.length else C.κ j
    F:=C1.F }
theorem idx_at:∀ {ids:List Nat},ids.Nodup→∀ {p i:Nat} (n:Nat),ids[p]? = some i→idx ids i n=some (n+p)
  | [],_,p,i,n,h=>by simp at h
  | a::r,hd,p,i,n,h=>by
    obtain ⟨h1,h2⟩:=List.nodup_cons.1 hd
    unfold idx
    cases p with
    | zero=>simp at h;subst h;simp
    | succ p =>
      rw [List.getElem?_cons_succ] at h
      have hne:a≠i:=fun e=>h1 (e ▸ List.mem_of_getElem? h)
      have hb:Nat.beq a i=false:=by
        cases hq:Nat.beq a i with
        | false=>rfl
        | true=>exact absurd (Nat.eq_of_beq_eq_true hq) hne
      rw [hb]
      have:=idx_at h2 (n+1) h
      simp only [this]
      congr 1;omega

theorem repL_mp{f:Nat→Option Nat}{C':Cx}{M':Mem}(hm:Mapd f C C' M M'):∀ {l ys:List AV} {us:List Value},RepL C M w l us→mpL f l=some ys→RepL C' M' w ys us
  | [],ys,us,h,hr=>by cases h;simp only [mpL] at hr;cases hr;exact .nil
  | x::r,ys,us,h,hr=>by
    cases h with
    | cons _ u _ k hx hk =>
      simp only [mpL] at hr
      split at hr
      · rename_i y hy
        simp only [Option.map_eq_some_iff] at hr
        obtain ⟨r',hr',rfl⟩:=hr
        exact .cons _ _ _ _ (mpA_sound hm hx hy) (repL_mp hm hk hr')
      · cases hr

theorem call_shown{f base:Nat}{ids:List Nat}{args args0:List AV}{r y:AV}{L:Upd}(hd:distinct 0 ids=true)(hb:freeB M base=true)
    (hs:rnM 0 ids (ids.map (at? M))=some M0) (hlv:∀ i∈ids,liveAt M i=true) (ha:rnL 0 ids args=some args0) (hU:outU ids base ids M1=some L) (hy:mpA (bkI ids base) r=some y)
    (h:FMM P f args0 M0 r M1):FM P f args M y L:=by
  intro C w us hus hM n
  obtain ⟨_,hnd⟩:=distinct_spec hd
  obtain ⟨hM0,hmp,hsrc⟩:=pick_mem (k:=0) hM hd hs
  have hlen:M0.length=ids.length:=by have:=(mpM_at hs).1;simpa using this
  have hbn:base∉ids:=fun hm=>by
    obtain ⟨o,h1,_⟩:=liveAt_inv (hlv _ hm)
    exact freeB_inv hb o h1
  obtain ⟨hl1,hup⟩:=outU_spec hU hnd hbn
  obtain ⟨u1,u2,u3,u4⟩:=hup M
  refine (h (C.rn 0 ids) w us (repL_mp hmp hus ha) hM0 n).mono ?_
  rintro e w' ⟨u,rfl,C1,hF,hM1,hr⟩
  have hL:=hM0.le hF
  have srcp:∀ p i,ids[p]? = some i→srcI 0 ids p=some i:=fun p i h=>by simp [srcI,h]
  have rnp:∀ p i,ids[p]? = some i→rnI 0 ids i=some p:=fun p i h=>by
    have:=idx_at hnd 0 h
    unfold rnI
    rw [show Nat.blt i 0=false from rfl,this,Nat.zero_add]
  have shown0:∀ p i,ids[p]? = some i→∃ o o0,M[i]? = some (some o)∧o.live=true∧M0[p]? = some (some o0)∧o0.live=true∧(C.rn 0 ids).ι p=C.ι i∧(C.rn 0 ids).κ p=C.κ i:=fun p i hp=>by
    obtain ⟨o,h1,h2⟩:=liveAt_inv (hlv i (List.mem_of_getElem? hp))
    obtain ⟨o0,h3,h4⟩:=hmp.fw _ _ _ (rnp p i hp) h1
    exact ⟨o,o0,h1,h2,h3,by rw [mpO_live h4];exact h2,hmp.at_ _ _ (rnp p i hp)⟩
  have sh_of:∀ (p:Nat) (o0:AO),M0[p]? = some (some o0)→∃ i o,ids[p]? = some i∧M[i]? = some (some o)∧o.live=true∧o0.live=true∧(C.rn 0 ids).ι p=C.ι i:=fun p o0 hp=>by
    obtain ⟨hl,_⟩:=List.getElem?_eq_some_iff.1 hp
    have hp':ids[p]? = some ids[p]:=List.getElem?_eq_getElem (by omega)
    obtain ⟨o,o1,h1,h2,h3,h4,h5,_⟩:=shown0 p _ hp'
    rw [hp] at h3;cases h3
    exact ⟨_,o,hp',h1,h2,h4,h5⟩
  have apart:∀ (j:Nat) (o:AO) (b:Nat),j∉ids→M[j]? = some (some o)→o.live=true→C.ι j=some b→w'.heap[b]? = w.heap[b]? ∧ ¬ C1.F b∧∀ (p:Nat) (o1:AO),M1[p]? = some (some o1)→o1.live=true→C1.ι p≠some b:=fun j o b hj h1 h2 h3=>by
    have hb1:=hM.lt j o b h1 h2 h3
    have no0:∀ (p:Nat) (o0:AO),M0[p]? = some (some o0)→o0.live=true→(C.rn 0 ids).ι p≠some b:=fun p o0 hp _ he=>by
      obtain ⟨i,o2,q1,q2,q3,_,q4⟩:=sh_of p o0 hp
      rw [q4] at he
      have:=hM.inj j i o o2 b h1 h2 q2 q3 h3 he
      subst this
      exact hj (List.mem_of_getElem? q1)
    refine ⟨hF.keep b hb1 no0,fun hf => ?_,fun p o1 hp hl he => ?_⟩
    · rcases hF.F2 b hf with q | q | ⟨p,o0,q1,q2,q3⟩
      · exact hM.nF j o b h1 h2 h3 q
      · omega
      · exact no0 p o0 q1 q2 q3
    · rcases hF.new p o1 b hp hl he with q | ⟨p0,o0,q1,q2,q3⟩
      · omega
      · exact no0 p0 o0 q1 q2 q3
  have ix:∀ j,(j∈ids→∃ p,idx ids j 0=some p∧ids[p]? = some j)∧(j∉ids→idx ids j 0=none):=fun j=>by
    refine ⟨fun hj => ?_,fun hj => ?_⟩
    · obtain ⟨p,hp,he⟩:=List.mem_iff_getElem.1 hj
      have:ids[p]? = some j:=by rw [List.getElem?_eq_getElem hp,he]
      exact ⟨p,by simpa using idx_at hnd 0 this,this⟩
    · cases h1:idx ids j 0 with
      | none=>rfl
      | some p =>
        obtain ⟨_,h2⟩:=idx_spec _ _ _ _ h1
        exact absurd (List.mem_of_getElem? h2) hj
  have cls:∀ (j:Nat) (o':AO),(upds M L)[j]? = some (some o')→(∃ p o1,ids[p]? = some j∧M1[p]? = some (some o1)∧mpO (bkI ids base) o1=some o'∧(C.back C1 ids base).ι j=C1.ι p∧(C.back C1 ids base).κ j=C1.κ p) ∨
      (∃ o1,j=base∧j∉ids∧M1[ids.length]? = some (some o1)∧mpO (bkI ids base) o1=some o'∧(C.back C1 ids base).ι j=C1.ι ids.length∧(C.back C1 ids base).κ j=C1.κ ids.length) ∨
      (j∉ids∧j≠base∧M[j]? = some (some o')∧(C.back C1 ids base).ι j=C.ι j∧(C.back C1 ids base).κ j=C.κ j):=fun j o' hj=>by
    rw [← objAt_iff] at hj
    by_cases hm:j∈ids
    · obtain ⟨p,hp1,hp2⟩:=(ix j).1 hm
      obtain ⟨o1,h1,h2⟩:=(u1 p j o' hp2).1 hj
      exact .inl ⟨p,o1,hp2,h1,h2,by simp [Cx.back,hp1],by simp [Cx.back,hp1]⟩
    · have hn:=(ix j).2 hm
      by_cases hjb:j=base
      · subst hjb
        rcases hl1 with hl | hl
        · rw [u3 hl] at hj
          have:=freeB_inv hb o'
          exact absurd (objAt_iff.1 hj) this
        · obtain ⟨o1,h1,h2⟩:=(u2 hl o').1 hj
          exact .inr (.inl ⟨o1,rfl,hm,h1,h2,by simp [Cx.back,hn],by simp [Cx.back,hn]⟩)
      · rw [u4 j hm hjb] at hj
        exact .inr (.inr ⟨hm,hjb,objAt_iff.1 hj,by simp [Cx.back,hn,hjb],by simp [Cx.back,hn,hjb]⟩)
  have hF2:Fr C M w (C.back C1 ids base) (upds M L) w':=by
    refine ⟨hF.os,hF.tape,hF.out,hF.size,fun b hb1 hn => ?_,fun i o ho => ?_,fun i o ho ty n cs hx => ?_,fun i o ho o' hx hl => ?_,fun j o b hj hl hjb => ?_,fun b hb=>hF.F1 b hb,fun b hb => ?_⟩
    · exact hF.keep b hb1 fun p o0 hp hl he=>by
        obtain ⟨i,o2,q1,q2,q3,_,q4⟩:=sh_of p o0 hp
        rw [q4] at he
        exact hn i o2 q2 q3 he
    · by_cases hm:i∈ids
      · obtain ⟨p,hp1,hp2⟩:=(ix i).1 hm
        obtain ⟨_,o0,_,_,h3,h4,h5,h6⟩:=shown0 p i hp2
        obtain ⟨⟨o1,q1⟩,q2,q3⟩:=hF.ids p o0 h3
        refine ⟨?_,by simp only [Cx.back,hp1];rw [q2,h5],by simp only [Cx.back,hp1];rw [q3,h6]⟩
        have hq:∃ o',mpO (bkI ids base) o1=some o':=by
          exact outU_all hU p o1 q1
        obtain ⟨o',hq⟩:=hq
        exact ⟨o',objAt_iff.1 ((u1 p i o' hp2).2 ⟨o1,q1,hq⟩)⟩
      · have hne:i≠base:=fun e=>by subst e;exact freeB_inv hb o ho
        refine ⟨⟨o,objAt_iff.1 (by rw [u4 i hm hne];exact objAt_iff.2 ho)⟩,by simp [Cx.back,(ix i).2 hm,hne],by simp [Cx.back,(ix i).2 hm,hne]⟩
    · rcases cls i _ hx with ⟨p,o1,q1,q2,q3,_⟩ | ⟨o1,rfl,_⟩ | ⟨_,_,q3,_⟩
      · rw [mpO_row q3] at q2
        obtain ⟨o2,o0,h1,_,h3,_⟩:=shown0 p i q1
        obtain ⟨cs',h5⟩:=hF.row p o0 h3 _ _ _ q2
        obtain ⟨o4,h6,h7⟩:=hmp.bk _ _ _ (rnp p i q1) h5
        rw [mpO_row h7] at h6
        exact ⟨cs',h6⟩
      · exact absurd ho (freeB_inv hb o)
      · exact ⟨cs,q3⟩
    · rcases cls i _ hx with ⟨p,o1,q1,q2,q3,_⟩ | ⟨o1,rfl,_⟩ | ⟨_,_,q3,_⟩
      · obtain ⟨o2,o0,h1,h2,h3,_⟩:=shown0 p i q1
        rw [ho] at h1;cases h1
        exact h2
      · exact absurd ho (freeB_inv hb o)
      · rw [ho] at q3;cases q3;exact hl
    · have fin:∀ (p:Nat) (o1:AO),M1[p]? = some (some o1)→o1.live=true→C1.ι p=some b→w.heap.size≤b∨∃ (id0:Nat) (o0:AO),M[id0]? = some (some o0)∧o0.live=true∧C.ι id0=some b:=fun p o1 h1 h2 h3=>by
        rcases hF.new p o1 b h1 h2 h3 with q | ⟨p0,o0,q1,q2,q3⟩
        · exact .inl q
        · obtain ⟨i,o2,r1,r2,r3,_,r4⟩:=sh_of p0 o0 q1
          rw [r4] at q3
          exact .inr ⟨i,o2,r2,r3,q3⟩
      rcases cls j _ hj with ⟨p,o1,q1,q2,q3,q4,_⟩ | ⟨o1,rfl,_,q2,q3,q4,_⟩ | ⟨_,_,q3,q4,_⟩
      · rw [q4] at hjb
        exact fin p o1 q2 (by rw [← mpO_live q3];exact hl) hjb
      · rw [q4] at hjb
        exact fin _ o1 q2 (by rw [← mpO_live q3];exact hl) hjb
      · rw [q4] at hjb
        exact .inr ⟨j,o,q3,hl,hjb⟩
    · rcases hF.F2 b hb with q | q | ⟨p,o0,q1,q2,q3⟩
      · exact .inl q
      · exact .inr (.inl q)
      · obtain ⟨i,o2,r1,r2,r3,_,r4⟩:=sh_of p o0 q1
        rw [r4] at q3
        exact .inr (.inr ⟨i,o2,r2,r3,q3⟩)
  have hL2:=hM.le hF2
  have hbk:Mapd (bkI ids base) C1 (C.back C1 ids base) M1 (upds M L):=by
    have two:∀ i j,bkI ids base i=some j→(ids[i]? = some j)∨(i=ids.length∧j=base):=fun i j h=>by
      unfold bkI at h
      split at h
      · rename_i hi;cases h;exact .inl hi
      · split at h
        · rename_i hq;cases h;exact .inr ⟨Nat.eq_of_beq_eq_true hq,rfl⟩
        · cases h
    have big:∀ (o:AO),M1[ids.length]? = some (some o)→M1.length=ids.length+1:=fun o h=>by
      obtain ⟨hl,_⟩:=List.getElem?_eq_some_iff.1 h
      omega
    refine ⟨fun i j o' hij hj => ?_,fun i j o hij hi => ?_,fun i j hij => ?_,fun _ h=>h⟩
    · rcases two i j hij with h1 | ⟨rfl,rfl⟩
      · exact (u1 i j o' h1).1 (objAt_iff.2 hj)
      · rcases hl1 with hl | hl
        · have:=objAt_iff.2 hj
          rw [u3 hl] at this
          exact absurd (objAt_iff.1 this) (freeB_inv hb o')
        · exact (u2 hl o').1 (objAt_iff.2 hj)
    · have hq:∃ o',mpO (bkI ids base) o=some o':=by
        exact outU_all hU i o hi
      obtain ⟨o',hq⟩:=hq
      rcases two i j hij with h1 | ⟨rfl,rfl⟩
      · exact ⟨o',objAt_iff.1 ((u1 i j o' h1).2 ⟨o,hi,hq⟩),hq⟩
      · exact ⟨o',objAt_iff.1 ((u2 (big o hi) o').2 ⟨o,hi,hq⟩),hq⟩
    · rcases two i j hij with h1 | ⟨rfl,rfl⟩
      · have:=idx_at hnd 0 h1
        rw [Nat.zero_add] at this
        simp [Cx.back,this]
      · simp [Cx.back,(ix _).2 hbn]
  refine ⟨u,rfl,C.back C1 ids base,hF2,⟨fun j ty n cs h => ?_,fun j ty cs h => ?_,fun j es cl h => ?_,fun j j' o1 o2 b q1 l1 q2 l2 e1 e2 => ?_,fun j o b h hl hb => ?_,hM1.Fs,fun j o b h hl hb => ?_⟩,mpA_sound hbk hr hy⟩
  · rcases cls j _ h with ⟨p,o1,q1,q2,q3,q4,q5⟩ | ⟨o1,rfl,_,q2,q3,q4,q5⟩ | ⟨q1,_,q3,q4,q5⟩
    · rw [mpO_row q3] at q2
      rw [q4,q5]
      exact hM1.row _ _ _ _ q2
    · rw [mpO_row q3] at q2
      rw [q4,q5]
      exact hM1.row _ _ _ _ q2
    · rw [q4,q5]
      rcases hM.row _ _ _ _ q3 with q | ⟨b,arr,inf,p0,p1,p2,p3,p4,p5,p6,p7,p8⟩
      · exact .inl q
      · exact .inr ⟨b,arr,inf,p0,by rw [(apart j _ b q1 q3 rfl p0).1];exact p1,p2,p3,p4,p5,p6,fun i hi=>(p7 i hi).mono hL2.F hL2.fz,p8⟩
  · rcases cls j _ h with ⟨p,o1,q1,q2,q3,q4,q5⟩ | ⟨o1,rfl,_,q2,q3,q4,q5⟩ | ⟨q1,_,q3,q4,q5⟩
    · cases o1 with
      | box ty' l =>
        simp only [mpO,Option.map_eq_some_iff] at q3
        obtain ⟨l',hl',e⟩:=q3
        cases e
        obtain ⟨b,arr,p0,p1,p2,p3,p4⟩:=hM1.box _ _ _ q2
        obtain ⟨n1,n2⟩:=mpL_sound hbk (w:=w') (us:=fun j=>arr.getD j undef) p3 hl'
        exact ⟨b,arr,by rw [q4];exact p0,p1,by omega,n2,fun j hj=>p4 j (by omega)⟩
      | row=>simp [mpO] at q3
      | mp=>simp [mpO] at q3
      | dead=>simp [mpO] at q3
    · cases o1 with
      | box ty' l =>
        simp only [mpO,Option.map_eq_some_iff] at q3
        obtain ⟨l',hl',e⟩:=q3
        cases e
        obtain ⟨b,arr,p0,p1,p2,p3,p4⟩:=hM1.box _ _ _ q2
        obtain ⟨n1,n2⟩:=mpL_sound hbk (w:=w') (us:=fun j=>arr.getD j undef) p3 hl'
        exact ⟨b,arr,by rw [q4];exact p0,p1,by omega,n2,fun j hj=>p4 j (by omega)⟩
      | row=>simp [mpO] at q3
      | mp=>simp [mpO] at q3
      | dead=>simp [mpO] at q3
    · obtain ⟨b,arr,p0,p1,p2,p3,p4⟩:=hM.box _ _ _ q3
      exact ⟨b,arr,by rw [q4];exact p0,by rw [(apart j _ b q1 q3 rfl p0).1];exact p1,p2,fun i hi=>(p3 i hi).mono hL2,p4⟩
  · rcases cls j _ h with ⟨p,o1,q1,q2,q3,q4,q5⟩ | ⟨o1,rfl,_,q2,q3,q4,q5⟩ | ⟨q1,_,q3,q4,q5⟩
    · cases o1 with
      | mp es' cl' =>
        simp only [mpO,Option.some.injEq] at q3
        cases q3
        obtain ⟨b,arr,p0,p1,p2,p3⟩:=hM1.mp _ _ _ q2
        refine ⟨b,arr,by rw [q4];exact p0,p1,p2,fun j hj => ?_⟩
        obtain ⟨en,s1,s2,s3,s4⟩:=p3 j hj
        exact ⟨en,s1,s2,s3,s4.mono hbk.F (fun _ _=>rfl)⟩
      | row=>simp [mpO] at q3
      | box=>simp [mpO] at q3
      | dead=>simp [mpO] at q3
    · cases o1 with
      | mp es' cl' =>
        simp only [mpO,Option.some.injEq] at q3
        cases q3
        obtain ⟨b,arr,p0,p1,p2,p3⟩:=hM1.mp _ _ _ q2
        refine ⟨b,arr,by rw [q4];exact p0,p1,p2,fun j hj => ?_⟩
        obtain ⟨en,s1,s2,s3,s4⟩:=p3 j hj
        exact ⟨en,s1,s2,s3,s4.mono hbk.F (fun _ _=>rfl)⟩
      | row=>simp [mpO] at q3
      | box=>simp [mpO] at q3
      | dead=>simp [mpO] at q3
    · obtain ⟨b,arr,p0,p1,p2,p3⟩:=hM.mp _ _ _ q3
      refine ⟨b,arr,by rw [q4];exact p0,by rw [(apart j _ b q1 q3 rfl p0).1];exact p1,p2,fun i hi => ?_⟩
      obtain ⟨en,s1,s2,s3,s4⟩:=p3 i hi
      exact ⟨en,s1,s2,s3,s4.mono hL2.F hL2.fz⟩
  · rcases cls j _ q1 with ⟨p,a1,r1,r2,r3,r4,_⟩ | ⟨a1,rfl,r1,r2,r3,r4,_⟩ | ⟨r1,rb,r3,r4,_⟩ <;> rcases cls j' _ q2 with ⟨p',a2,t1,t2,t3,t4,_⟩ | ⟨a2,rfl,t1,t2,t3,t4,_⟩ | ⟨t1,tb,t3,t4,_⟩
    all_goals try rfl
    all_goals (rw [r4] at e1;rw [t4] at e2)
    · have:=hM1.inj p p' a1 a2 b r2 (by rw [← mpO_live r3];exact l1) t2 (by rw [← mpO_live t3];exact l2) e1 e2
      subst this
      rw [r1] at t1;cases t1;rfl
    · have:=hM1.inj p _ a1 a2 b r2 (by rw [← mpO_live r3];exact l1) t2 (by rw [← mpO_live t3];exact l2) e1 e2
      obtain ⟨hl,_⟩:=List.getElem?_eq_some_iff.1 r1
      omega
    · exact absurd e1 ((apart j' o2 b t1 t3 l2 e2).2.2 p a1 r2 (by rw [← mpO_live r3];exact l1))
    · have:=hM1.inj _ p' a1 a2 b r2 (by rw [← mpO_live r3];exact l1) t2 (by rw [← mpO_live t3];exact l2) e1 e2
      obtain ⟨hl,_⟩:=List.getElem?_eq_some_iff.1 t1
      omega
    · exact absurd e1 ((apart j' o2 b t1 t3 l2 e2).2.2 _ a1 r2 (by rw [← mpO_live r3];exact l1))
    · exact absurd e2 ((apart j o1 b r1 r3 l1 e1).2.2 p' a2 t2 (by rw [← mpO_live t3];exact l2))
    · exact absurd e2 ((apart j o1 b r1 r3 l1 e1).2.2 _ a2 t2 (by rw [← mpO_live t3];exact l2))
    · exact hM.inj j j' o1 o2 b r3 l1 t3 l2 e1 e2
  · rcases cls j _ h with ⟨p,o1,q1,q2,q3,q4,q5⟩ | ⟨o1,rfl,_,q2,q3,q4,q5⟩ | ⟨q1,_,q3,q4,q5⟩
    · rw [q4] at hb
      exact hM1.nF _ _ b q2 (by rw [← mpO_live q3];exact hl) hb
    · rw [q4] at hb
      exact hM1.nF _ _ b q2 (by rw [← mpO_live q3];exact hl) hb
    · rw [q4] at hb
      exact (apart j o b q1 q3 hl hb).2.1
  · rcases cls j _ h with ⟨p,o1,q1,q2,q3,q4,q5⟩ | ⟨o1,rfl,_,q2,q3,q4,q5⟩ | ⟨q1,_,q3,q4,q5⟩
    · rw [q4] at hb
      exact hM1.lt _ _ b q2 (by rw [← mpO_live q3];exact hl) hb
    · rw [q4] at hb
      exact hM1.lt _ _ b q2 (by rw [← mpO_live q3];exact hl) hb
    · rw [q4] at hb
      exact Nat.lt_of_lt_of_le (hM.lt j o b q3 hl hb) hF.size

def shown(ids:List Nat)(base:Nat)(args:List AV)(bs:Upd)(M1:Mem)(r:AV):Option (List AV × Mem × AV × Upd):=match distinct 0 ids && ids.all (liveAt (upds [] bs)) with
  | true=>match rnM 0 ids (ids.map (at? (upds [] bs))) with
    | some M0=>match rnL 0 ids args with
      | some args0=>match outU ids base ids M1 with
        | some L=>match mpA (bkI ids base) r with
          | some y=>some (args0,M0,y,L)
          | none=>none
        | none=>none
      | none=>none
    | none=>none
  | false=>none
theorem FMM.fc{f base:Nat}{ids:List Nat}{args args0:List AV}{bs:Upd}{r y:AV}{L:Upd}(h:FMM P f args0 M0 r M1)(hs:shown ids base args bs M1 r=some (args0,M0,y,L)):FC P f args bs base y L:=fun M hb hf=>by
  unfold shown at hs
  have hsub:SubM (upds [] bs) M:=fun id o ho=>by
    rcases upds_mem bs [] id o ho with h5 | h5
    · exact hb _ h5
    · simp [objAt] at h5
  split at hs
  · rename_i hd
    rw [Bool.and_eq_true,List.all_eq_true] at hd
    have hlv:∀ i∈ids,∃ o,objAt (upds [] bs) i=some o∧objAt M i=some o∧o.live=true:=fun i hi=>by
      obtain ⟨o,h1,h2⟩:=liveAt_inv (hd.2 i hi)
      exact ⟨o,objAt_iff.2 h1,hsub _ _ (objAt_iff.2 h1),h2⟩
    split at hs
    · rename_i h1
      split at hs
      · rename_i h2
        split at hs
        · rename_i h3
          split at hs
          · rename_i h4
            cases hs
            have he:ids.map (at? M)=ids.map (at? (upds [] bs)):=List.map_congr_left fun i hi=>by
              obtain ⟨o,q1,q2,_⟩:=hlv i hi
              unfold at?
              rw [q1,q2]
            refine call_shown hd.1 hf (by rw [he];exact h1) (fun i hi => ?_) h2 h3 h4 h
            obtain ⟨o,_,q2,q3⟩:=hlv i hi
            exact live_of (objAt_iff.1 q2) q3
          · cases hs
        · cases hs
      · cases hs
    · cases hs
  · cases hs

theorem fzL_repL{id ty n:Nat}{cs:List PV}(hM:MemOK P C M w)(ho:M[id]? = some (some (.row ty n cs))):∀ {l:List AV} {us:List Value},RepL C M w l us→RepL (C.close id true) (setAt M id (some .dead)) w (fzL id n cs l) us
  | [],us,h=>by cases h;simp only [fzL];exact .nil
  | x::r,us,h=>by
    cases h with
    | cons _ u _ k hx hr =>
      simp only [fzL]
      exact .cons _ _ _ _ (fzA_sound hM ho hx) (fzL_repL hM ho hr)
theorem FM.close1{f id ty n:Nat}{cs:List PV}{args:List AV}{y:AV}{L:Upd}(ho:objAt M id=some (.row ty n cs))(h:FM P f (fzL id n cs args) (setAt M id (some .dead)) y L):FM P f args M y ((id,.dead)::L):=fun C w us hus hM k=>by
  have ho:=objAt_iff.1 ho
  have fk:=fr_kill (C:=C) (w:=w) true ho rfl
  refine (h _ w us (fzL_repL hM ho hus) (mem_kill hM true ho rfl) k).mono ?_
  rintro e w' ⟨u,rfl,C',hF,hM',hr⟩
  exact ⟨u,rfl,C',fk.trans hF,hM',hr⟩
def closeB(bs:Upd):List Nat→List AV→Option (List AV)
  | [],args=>match noRefL args with
    | true=>some args
    | false=>none
  | id::r,args=>match objAt (upds [] bs) id with
    | some (.row _ n cs)=>match r.all (fun j => !Nat.beq j id) with
      | true=>closeB bs r (fzL id n cs args)
      | false=>none
    | _=>none
def kills:List Nat→Upd→Upd
  | [],L=>L
  | id::r,L=>(id,.dead)::kills r L
theorem closeB_fm{f base:Nat}{bs:Upd}{y:AV}{L:Upd}:∀ {ids:List Nat} {M:Mem} {args args':List AV},closeB bs ids args=some args'→(∀ id∈ids,∀ o,objAt (upds [] bs) id=some o→objAt M id=some o)→freeB M base=true→FV P f args' base y L→FM P f args M y (kills ids L)
  | [],M,args,args',hc,_,hf,h=>by
    unfold closeB at hc
    split at hc
    · rename_i hn
      cases hc
      obtain ⟨r,M1,h1,h2⟩:=h
      exact call_lift (.inl ⟨hn,rfl⟩) hf h2 h1
    · cases hc
  | id::r,M,args,args',hc,hb,hf,h=>by
    unfold closeB at hc
    split at hc
    · rename_i ty n cs ho
      split at hc
      · rename_i hd
        have hoM:=hb id (List.mem_cons_self ..) _ ho
        refine FM.close1 hoM (closeB_fm hc (fun j hj o hjo => ?_) ?_ h)
        · have hne:j≠id:=fun e=>by
            have:=List.all_eq_true.1 hd j hj
            subst e
            simp at this
          rw [objAt_setAt,if_neg (Ne.symm hne)]
          exact hb j (List.mem_cons_of_mem _ hj) o hjo
        · have hne:id≠base:=fun e=>by
            subst e
            exact freeB_inv hf _ (objAt_iff.1 hoM)
          unfold freeB at hf ⊢
          rw [objAt_setAt,if_neg hne];exact hf
      · cases hc
    · cases hc
theorem FV.close{f base:Nat}{ids:List Nat}{args args':List AV}{y:AV}{L:Upd}{bs:Upd}(h:FV P f args' base y L)(hc:closeB bs ids args=some args'):FC P f args bs base y (kills ids L):=fun M hb hf=>by
  refine closeB_fm hc (fun id _ o ho => ?_) hf h
  rcases upds_mem bs [] id o ho with h5 | h5
  · exact hb _ h5
  · simp [objAt] at h5

def unA:AV→AV
  | .tup l => .tup (l.map un)
  | x=>un x
theorem unA_rep{x:AV}{u:Value}(h:Rep C M w x u):Rep C M w (unA x) u:=by
  cases h with
  | tup cs vs h1 h2 =>
    refine .tup _ _ (by simpa using h1) (fun i hi => ?_)
    simp only [List.getElem_map]
    exact un_rep (h2 i (by simpa using hi))
  | p x u h=>exact .p _ _ h
  | any u=>exact .any u
  | kb b=>exact un_rep (.kb b)
  | yld l=>exact .yld l
  | own id u h0 ha h=>exact .own id u h0 ha h
  | arr id off n u h0 ha h=>exact .arr id off n u h0 ha h
  | ptr id off u h0 ha h=>exact .ptr id off u h0 ha h
  | mp id u h0 ha h=>exact .mp id u h0 ha h
  | rp cs off b o us h1 h2 h3=>exact .rp cs off b o us h1 h2 h3
  | agg cs vs h0 h1 h2=>exact .agg cs vs h0 h1 h2
  | fn f cs ds us vs h1 h2 h3 h4=>exact .fn f cs ds us vs h1 h2 h3 h4
theorem FMM.un{f:Nat}{args:List AV}{M M1:Mem}{r:AV}(h:FMM P f args M r M1):FMM P f args M (unA r) M1:=fun C w us hus hM n=>by
  refine (h C w us hus hM n).mono ?_
  rintro e w' ⟨u,rfl,C1,hF,hM1,hr⟩
  exact ⟨u,rfl,C1,hF,hM1,unA_rep hr⟩

def finM(k:Nat)(g:Gh)(x:Option ((AV × Mem) × AS)):Option (AV × Mem × List Prop × List OI):=match x with
  | some ((r,M1),s)=>match gh k g ⟨[unA r],M1⟩ with
    | some ⟨[r'],M'⟩=>some (r',M',s.obs,s.o)
    | _=>none
  | none=>none
theorem FMM.gh{f k:Nat}{args:List AV}{M M1 M':Mem}{r r':AV}{g:Gh}(hk:M.length≤k)(h:FMM P f args M r M1)(hg:KV.gh k g ⟨[r],M1⟩=some ⟨[r'],M'⟩):FMM P f args M r' M':=fun C w us hus hM n=>by
  refine (h C w us hus hM n).mono ?_
  rintro e w' ⟨u,rfl,C1,hF,hM1,hr⟩
  have hs:Sim P (C.with []) M w ⟨[r],M1⟩ { tmps := #[u],defers:=[] } w':=⟨C1,⟨rfl,fun i hi=>by
    obtain rfl:i=0:=by simpa using hi
    exact hr⟩,hM1,hF.based [],.nil rfl⟩
  obtain ⟨C2,hS,hM2,hF2,_⟩:=gh_sound hk hg hs
  exact ⟨u,rfl,C2,hF2.unbased,hM2,hS.rep 0 (by simp)⟩
end
section
/-- numbers, by runs -/
def rng:List (Nat × Nat)→List Nat
  | []=>[]
  | (a,n)::r=>List.range' a n++rng r

abbrev intP(n:Int):PV := .v (.int .i64 n)
abbrev blP(b:Bool):PV := .v (.bool b)
abbrev intsP(l:List Int):PV := .sl l.length (l.map intP)
abbrev rowsP(l:List (List Int)):PV := .sl l.length (l.map intsP)
abbrev nilS:PV := .v (.slice none 0 0)

def EO:Env:=⟨fun _ _ _ _=>none,ok⟩
theorem EO_ok:EnvOK Tryz.prog EO:=⟨fun _ _ _ _ _ _ h=>(by cases h),ok_run⟩

def cd(f:Func):Code:=f.body.getD .skip
def sub:Code→List Nat→Code
  | c,[]=>c
  | .seq a b,i::r=>match i with | 0=>sub a r | _=>sub b r
  | .cond _ a b,i::r=>match i with | 0=>sub a r | _=>sub b r
  | .block _ b,_::r=>sub b r
  | .loop b,_::r=>sub b r
  | .scope b,_::r=>sub b r
  | .rangeFunc _ _ a b,i::r=>match i with | 0=>sub a r | _=>sub b r
  | _,_::_ => .skip
def look:List (Nat × AV)→Nat→AV
  | [],_ => .any
  | (i,x)::r,k=>match Nat.beq i k with
    | true=>x
    | false=>look r k
def frm(l:List (Nat × AV)):Nat→Nat→List AV
  | 0,_=>[]
  | n+1,k=>look l k::frm l n (k+1)
abbrev fr(n:Nat)(l:List (Nat × AV)):List AV:=frm l n 0

abbrev asg(o:List OI):AS:=⟨false,o,[]⟩
abbrev out(l:List Prop):AS:=⟨false,[],l⟩
theorem gn:Good (out []):=fun _ h=>by simp at h
theorem gc{p:Prop}{l:List Prop}(hp:p)(h:Good (out l)):Good (out (p::l)):=fun q hq=>by
  rcases List.mem_cons.1 hq with rfl | hq
  · exact hp
  · exact h q hq

theorem FV.run{f base:Nat}{fn:Func}{c:Code}{args:List AV}{r y:AV}{M1:Mem}{L:Upd}{o:List OI}{l:List Prop}(hf:Tryz.prog.funcs[f]? = some fn)(hb:fn.body=some c)
    (h:runF Tryz.prog tT EO 0 fn c args [] (asg o)=some ((r,M1),out l)) (ho:outP M1 base r=some (y,L)) (g:Good (out l)):FV Tryz.prog f args base y L :=
  ⟨r,M1,runF_sound tT_ok EO_ok mixed hf hb h g,ho⟩
theorem FMM.run{f:Nat}{fn:Func}{c:Code}{args:List AV}{r:AV}{M M1:Mem}{o:List OI}{l:List Prop}(hf:Tryz.prog.funcs[f]? = some fn)(hb:fn.body=some c)
    (h:runF Tryz.prog tT EO 0 fn c args M (asg o)=some ((r,M1),out l)) (g:Good (out l)):FMM Tryz.prog f args M r M1:=runF_sound tT_ok EO_ok mixed hf hb h g
theorem CodeOK.run{k:Nat}{c:Code}{st st1 st':St}{e:Ex}{g:Gh}{o:List OI}{l:List Prop}(h:runC Tryz.prog tT EO k 0 c st (asg o)=some ((e,st1),out l))(hg:gh k g st1=some st')(gd:Good (out l)):CodeOK Tryz.prog k c st e st' :=
  (runC_sound tT_ok EO_ok mixed c h gd).post hg

def finF(base:Nat)(x:Option ((AV × Mem) × AS)):Option (AV × Upd × List Prop × List OI):=match x with
  | some ((r,M1),s)=>match outP M1 base (unA r) with
    | some (y,L)=>some (y,L,s.obs,s.o)
    | none=>none
  | none=>none
theorem FV.fin{f base:Nat}{fn:Func}{args:List AV}{y:AV}{L:Upd}{o:List OI}{l:List Prop}(hf:Tryz.prog.funcs[f]? = some fn)(hb:fn.body.isSome=true)
    (h:finF base (runF Tryz.prog tT EO 0 fn (cd fn) args [] (asg o))=some (y,L,l,[])) (g:Good (out l)):FV Tryz.prog f args base y L:=by
  unfold finF at h
  split at h
  · rename_i r M1 s hr
    split at h
    · rename_i y' L' ho
      simp only [Option.some.injEq,Prod.mk.injEq] at h
      obtain ⟨rfl,rfl,rfl,hs⟩:=h
      refine ⟨unA r,M1,FMM.un (runF_sound tT_ok EO_ok mixed hf ?_ hr (fun p hp=>g p hp)),ho⟩
      unfold cd
      cases h1:fn.body with
      | none=>rw [h1] at hb;cases hb
      | some c=>rfl
    · cases h
  · cases h
def finC(k:Nat)(g:Gh)(x:Option ((Ex × St) × AS)):Option (Ex × St × List Prop × List OI):=match x with
  | some ((e,st1),s)=>match gh k g st1 with
    | some st'=>some (e,st',s.obs,s.o)
    | none=>none
  | none=>none
theorem CodeOK.fin{k:Nat}{c:Code}{st st':St}{e:Ex}{g:Gh}{o:List OI}{l:List Prop}(h:finC k g (runC Tryz.prog tT EO k 0 c st (asg o))=some (e,st',l,[]))(gd:Good (out l)):CodeOK Tryz.prog k c st e st':=by
  unfold finC at h
  split at h
  · rename_i e1 st1 s hr
    split at h
    · rename_i st2 hg
      simp only [Option.some.injEq,Prod.mk.injEq] at h
      obtain ⟨rfl,rfl,rfl,hs⟩:=h
      exact (runC_sound tT_ok EO_ok mixed c hr (fun p hp=>gd p hp)).post hg
    · cases h
  · cases h
theorem FMM.fin{f k:Nat}{fn:Func}{args:List AV}{M M':Mem}{r:AV}{g:Gh}{o:List OI}{l:List Prop}(hk:M.length=k)(hf:Tryz.prog.funcs[f]? = some fn)(hb:fn.body.isSome=true)
    (h:finM k g (runF Tryz.prog tT EO 0 fn (cd fn) args M (asg o))=some (r,M',l,[])) (gd:Good (out l)):FMM Tryz.prog f args M r M':=by
  unfold finM at h
  split at h
  · rename_i r1 M1 s hr
    split at h
    · rename_i r2 M2 hg
      simp only [Option.some.injEq,Prod.mk.injEq] at h
      obtain ⟨rfl,rfl,rfl,hs⟩:=h
      refine FMM.gh (Nat.le_of_eq hk) (FMM.un (runF_sound tT_ok EO_ok mixed hf ?_ hr (fun p hp=>gd p hp))) hg
      unfold cd
      cases h1:fn.body with
      | none=>rw [h1] at hb;cases hb
      | some c=>rfl
    · cases h
  · cases h
theorem FV.frz{P:Program}{f base:Nat}{args:List AV}{y:AV}(h:FMM P f args [] y [])(ho:outP [] base y=some (y,[])):FV P f args base y []:=⟨y,[],h,ho⟩
theorem CodeOK.cast{P:Program}{k:Nat}{c:Code}{st st1 st':St}{e:Ex}(h:CodeOK P k c st e st1)(he:st1=st'):CodeOK P k c st e st':=he ▸ h
def setS(st:St)(l:List (Nat × AV)):St:=⟨l.foldl (fun t p=>t.set p.1 p.2) st.t,st.m⟩

theorem q_eq{x y:Int}(h:x=y):(x == y)=true:=by simpa using h
theorem q_ne{x y:Int}(h:x≠y):(x == y)=false:=by simpa using h
theorem q_neT{x y:Int}(h:x≠y):(x != y)=true:=by simpa using h
theorem q_neF{x y:Int}(h:x=y):(x != y)=false:=by simpa using h
theorem q_lt{x y:Int}(h:x<y):decide (x<y)=true:=by simpa using h
theorem q_ltF{x y:Int}(h:y≤x):decide (x<y)=false:=by simpa using h
theorem q_le{x y:Int}(h:x≤y):decide (x≤y)=true:=by simpa using h
theorem q_leF{x y:Int}(h:y<x):decide (x≤y)=false:=by simpa using h
theorem q_not{b:Bool}(h:b=false):(!b)=true:=by simpa using h
theorem q_notF{b:Bool}(h:b=true):(!b)=false:=by simpa using h

theorem at_map{α:Type}{g:α→PV}{l:List α}{i:Nat}{x:α}(h:l[i]? = some x):(l.map g)[i*1]? = some (g x):=by rw [Nat.mul_one,List.getElem?_map,h];rfl
theorem ix_map{α:Type}{g:α→PV}{l:List α}{i:Int}{x:α}(h0:0≤i)(h:l[i.toNat]? = some x):0≤i∧i<(l.length:Int)∧i.toNat*1<(l.map g).length:=by
  obtain ⟨h1,_⟩:=List.getElem?_eq_some_iff.1 h
  refine ⟨h0,by omega,by simpa using h1⟩
theorem ix_own{α:Type}{l:List α}{i:Int}{x:α}(h0:0≤i)(h:l[i.toNat]? = some x):0≤i∧i<(l.length:Int):=by
  obtain ⟨h1,_⟩:=List.getElem?_eq_some_iff.1 h
  exact ⟨h0,by omega⟩
theorem fk{P:Program}{f:Nat}{args:List AV}{y:AV}{L:Upd}(base:Nat)(h:FV P f args base y L)(hn:noRefL args=true):FC P f args [] base y L:=h.fc hn
theorem fv{P:Program}{f base:Nat}{args args':List AV}{y:AV}{L:Upd}{bs:List (Nat × AO)}(h:FV P f args' base y L)(hv:viewL (upds [] bs) args=some args':=by kernel_rfl)(h1:rigA y=true:=by kernel_rfl)(h2:rigU L=true:=by kernel_rfl):FC P f args bs base y L:=h.view hv h1 h2
theorem ixn{α:Type}{l:List α}{i:Nat}{x:α}(g:α→PV)(h:l[i]? = some x):0≤(i:Int)∧(i:Int)<(l.length:Int)∧(i:Int).toNat*1<(l.map g).length:=ix_map (Int.natCast_nonneg _) (by rwa [Int.toNat_natCast])
theorem atm{α:Type}{l:List α}{i:Nat}{x:α}(g:α→PV)(h:l[i]? = some x):(l.map g)[i*1]? = some (g x):=at_map h
abbrev bF:OI := .b false
abbrev bT:OI := .b true
end
section
section
variable {P:Program} {k:Nat} {b:Code} {α:Type}
theorem LoopOK.find(S:Nat→St)(R1:Nat→α→St)(R2:St)(e1 e2:Ex)(h1:e1 ≠ .normal)(h2:e2 ≠ .normal)(p:α→Bool)(l:List α)
    (hs:∀ (i:Nat) (x:α),l[i]? = some x→p x=false→CodeOK P k b (S i) .normal (S (i+1)))
    (hq:∀ (i:Nat) (x:α),l[i]? = some x→p x=true→CodeOK P k b (S i) e1 (R1 i x))
    (hx:CodeOK P k b (S l.length) e2 R2) :
    (∃ i x,l[i]? = some x∧l.findIdx? p=some i∧p x=true∧LoopOK P k b (S 0) e1 (R1 i x))∨(l.findIdx? p=none∧l.any p=false∧LoopOK P k b (S 0) e2 R2):=by
  have key:∀ (r:List α) (i:Nat),l.drop i=r→i≤l.length→(∃ j x,l[i+j]? = some x∧r.findIdx? p=some j∧p x=true∧LoopOK P k b (S i) e1 (R1 (i+j) x))∨(r.findIdx? p=none∧r.any p=false∧LoopOK P k b (S i) e2 R2):=by
    intro r
    induction r with
    | nil =>
      intro i hd hi
      have:i=l.length:=by have:=congrArg List.length hd;simp at this;omega
      subst this
      exact .inr ⟨rfl,rfl,.exit hx h2⟩
    | cons x r ih =>
      intro i hd hi
      have hl:l[i]? = some x:=by
        have:=congrArg (·[0]?) hd
        simpa using this
      have hlt:i<l.length:=(List.getElem?_eq_some_iff.1 hl).1
      cases hp:p x with
      | true=>exact .inl ⟨0,x,by simpa using hl,by simp [List.findIdx?_cons,hp],hp,.exit (hq i x hl hp) h1⟩
      | false =>
        have hd':l.drop (i+1)=r:=by
          have:=congrArg List.tail hd
          simpa [List.tail_drop] using this
        rcases ih (i+1) hd' (by omega) with ⟨j,y,q1,q2,q3,q4⟩ | ⟨q1,q2,q3⟩
        · refine .inl ⟨j+1,y,by rw [← q1];congr 1;omega,by simp [List.findIdx?_cons,hp,q2],q3,?_⟩
          rw [show i+(j+1)=i+1+j by omega]
          exact .step (hs i x hl hp) q4
        · exact .inr ⟨by simp [List.findIdx?_cons,hp,q1],by simp [hp,q2],.step (hs i x hl hp) q3⟩
  rcases key l 0 (by simp) (Nat.zero_le _) with ⟨j,x,q1,q2,q3,q4⟩ | q
  · exact .inl ⟨j,x,by simpa using q1,q2,q3,by simpa using q4⟩
  · exact .inr q
end
theorem LoopOK.times{P:Program}{k:Nat}{b:Code}{β:Type}{e:Ex}(S:Nat→β→St)(R:β→St)(f:β→Nat→β)(Inv:Nat→β→Prop)(he:e ≠ .normal)(n:Nat){a0:β}(h0:Inv 0 a0)
    (hs:∀ (i:Nat) (acc:β),i<n→Inv i acc→Inv (i+1) (f acc i)∧CodeOK P k b (S i acc) .normal (S (i+1) (f acc i)))
    (hx:∀ acc,Inv n acc→CodeOK P k b (S n acc) e (R acc)):LoopOK P k b (S 0 a0) e (R ((List.range n).foldl f a0)):=by
  refine LoopOK.range S R f Inv he (List.range n) h0 (fun i x acc hl hI => ?_) (fun acc hI => ?_)
  · obtain ⟨h1,rfl⟩:=List.getElem?_eq_some_iff.1 hl
    rw [List.getElem_range]
    exact hs i acc (by simpa using h1) hI
  · rw [List.length_range] at hI ⊢
    exact hx acc hI
theorem foldl_filter{p:Nat→Bool}:∀ (l:List Nat) (a:List Int),l.foldl (fun acc s=>if p s then acc++[(s:Int)] else acc) a=a++(l.filter p).map fun (s:Nat)=>(s:Int)
  | [],a=>by simp
  | x::l,a=>by
    rw [List.foldl_cons,foldl_filter l]
    by_cases h:p x <;> simp [h]
theorem foldl_map{g:Nat→Int}:∀ (l:List Nat) (a:List Int),l.foldl (fun acc s=>acc++[g s]) a=a++l.map g
  | [],a=>by simp
  | x::l,a=>by
    rw [List.foldl_cons,foldl_map l]
    simp
def idxF{α:Type}(p:α→Bool)(l:List α):Int:=match l.findIdx? p with
  | some i=>(i:Int)
  | none => -1
theorem idxF_some{α:Type}{p:α→Bool}{l:List α}{i:Nat}(h:l.findIdx? p=some i):idxF p l=(i:Int):=by unfold idxF;rw [h]
theorem idxF_none{α:Type}{p:α→Bool}{l:List α}(h:l.findIdx? p=none):idxF p l = -1:=by unfold idxF;rw [h]
theorem idxF_any{α:Type}(p:α→Bool)(l:List α):decide (idxF p l ≥ 0)=l.any p:=by
  unfold idxF
  cases h:l.findIdx? p with
  | none =>
    have:l.any p=false:=by simpa using h
    simp [this]
  | some i =>
    have:l.any p=true:=by
      have h2:(l.findIdx? p).isSome=true:=by rw [h];rfl
      rwa [List.findIdx?_isSome] at h2
    simp [this]
def uni(k:Nat)(L:List (List Int)):Prop:=∀ x∈L,x.length=k
theorem uni_tail{k:Nat}{x:List Int}{L:List (List Int)}(h:uni k (x::L)):uni k L:=fun y hy=>h y (List.mem_cons_of_mem _ hy)
theorem fl_drop{k:Nat}:∀ {L:List (List Int)} (i:Nat),uni k L→(L.flatten).drop (i*k)=(L.drop i).flatten
  | [],i,_=>by simp
  | x::L,0,_=>by simp
  | x::L,i+1,h=>by
    have hx:=h x (by simp)
    rw [List.flatten_cons,List.drop_succ_cons,← fl_drop i (uni_tail h),List.drop_append]
    rw [List.drop_eq_nil_of_le (by rw [hx,Nat.succ_mul];omega),List.nil_append]
    congr 1
    rw [hx,Nat.succ_mul];omega
theorem fl_take{k:Nat}:∀ {L:List (List Int)} (i:Nat),uni k L→(L.flatten).take (i*k)=(L.take i).flatten
  | [],i,_=>by simp
  | x::L,0,_=>by simp
  | x::L,i+1,h=>by
    have hx:=h x (by simp)
    rw [List.flatten_cons,List.take_succ_cons,List.flatten_cons,← fl_take i (uni_tail h),List.take_append]
    rw [List.take_of_length_le (by rw [hx,Nat.succ_mul];omega)]
    congr 2
    rw [hx,Nat.succ_mul];omega
theorem fl_len{k:Nat}:∀ {L:List (List Int)},uni k L→(L.flatten).length=L.length*k
  | [],_=>by simp
  | x::L,h=>by rw [List.flatten_cons,List.length_append,fl_len (uni_tail h),h x (by simp),List.length_cons,Nat.succ_mul];omega
theorem fl_at{k i:Nat}{L:List (List Int)}{x:List Int}(h:uni k L)(hx:L[i]? = some x):((L.flatten).drop (i*k)).take k=x:=by
  have hl:x.length=k:=h x (List.mem_of_getElem? hx)
  obtain ⟨hi,he⟩:=List.getElem?_eq_some_iff.1 hx
  rw [fl_drop i h,List.drop_eq_getElem_cons hi,List.flatten_cons,he,List.take_append_of_le_length (by omega),List.take_of_length_le (by omega)]
theorem fl_le{k i:Nat}{L:List (List Int)}{x:List Int}(h:uni k L)(hx:L[i]? = some x):i*k+k≤(L.flatten.map intP).length:=by
  obtain ⟨hi,_⟩:=List.getElem?_eq_some_iff.1 hx
  rw [List.length_map,fl_len h]
  have:(i+1)*k≤L.length*k:=Nat.mul_le_mul_right _ hi
  rw [Nat.succ_mul] at this;exact this
theorem fl_load{k i:Nat}{L:List (List Int)}{x:List Int}(h:uni k L)(hx:L[i]? = some x):some (PV.agg (((L.flatten.map intP).drop (i*k)).take k))=some (.agg (x.map intP)):=by
  rw [← List.map_drop,← List.map_take,fl_at h hx]
theorem fl_field{k i f:Nat}{L:List (List Int)}{x:List Int}{y:Int}(h:uni k L)(hx:L[i]? = some x)(hy:x[f]? = some y):(L.flatten.map intP)[i*k+f]? = some (intP y):=by
  have hl:x.length=k:=h x (List.mem_of_getElem? hx)
  have hf:f<k:=by rw [← hl];exact (List.getElem?_eq_some_iff.1 hy).1
  have:=congrArg (·[f]?) (fl_at h hx)
  simp only [List.getElem?_take,hf,if_true,List.getElem?_drop] at this
  rw [List.getElem?_map,this,hy];rfl
theorem fl_store{k i:Nat}{L:List (List Int)}{x:List Int}(h:uni k L)(hi:i<L.length)(hx:x.length=k):((L.flatten.map intP).take (i*k)++x.map intP++(L.flatten.map intP).drop (i*k+k))=((L.set i x).flatten.map intP):=by
  have e:i*k+k=(i+1)*k:=by rw [Nat.succ_mul]
  rw [← List.map_take,← List.map_drop,← List.map_append,← List.map_append,fl_take i h,e,fl_drop (i+1) h]
  rw [List.set_eq_take_append_cons_drop,if_pos hi,List.flatten_append,List.flatten_cons,List.append_assoc]
theorem uni_set{k i:Nat}{L:List (List Int)}{x:List Int}(h:uni k L)(hx:x.length=k):uni k (L.set i x):=fun y hy=>by
  rcases List.mem_or_eq_of_mem_set hy with h1 | rfl
  · exact h y h1
  · exact hx
theorem len2{x:List Int}(h:x.length=2):∃ a b,x=[a,b]:=by
  match x,h with
  | [a,b],_=>exact ⟨a,b,rfl⟩
theorem len4{x:List Int}(h:x.length=4):∃ a b c d,x=[a,b,c,d]:=by
  match x,h with
  | [a,b,c,d],_=>exact ⟨a,b,c,d,rfl⟩
theorem sl_cast{α:Type}{g:α→PV}{n:Nat}{cs:List PV}{l:List α}(h1:n=l.length)(h2:cs=l.map g):PV.sl n cs = .sl l.length (l.map g):=by subst h1;subst h2;rfl
theorem at_nil{l:List PV}{i:Nat}{x:PV}(h:l[i]? = some x):(l++[])[i]? = some x:=by rw [List.append_nil];exact h
theorem ix_fl{k:Nat}{L:List (List Int)}{i:Int}{x:List Int}(hk:0<k)(hu:uni k L)(h0:0≤i)(h:L[i.toNat]? = some x):0≤i∧i<(L.length:Int)∧i.toNat*k<(L.flatten.map intP).length:=by
  have h1:=fl_le hu h
  obtain ⟨h2,_⟩:=List.getElem?_eq_some_iff.1 h
  exact ⟨h0,by omega,by omega⟩
theorem inR_nat{n:Nat}(h:n≤1000000):inR ((n:Nat):Int):=by unfold inR;omega
theorem lt_of_at{α:Type}{l:List α}{i:Nat}{x:α}(h:l[i]? = some x):i<l.length:=(List.getElem?_eq_some_iff.1 h).1
abbrev small(n:Nat):Prop:=n<1000000
end
end KV
end Go.Proofs
section
namespace Go.Proofs
open Go.ChangeShapes Go.WideShapes Go.ChangeAt Go.RowKit
namespace KV
variable {P:Program} {W W':World}

def CxW(W:World):Cx:={ ι:=fun _=>none,κ:=fun _=>0,F:=fun b=>b<W.heap.size }
theorem memW(W:World):MemOK P (CxW W) [] W:=⟨fun i ty n cs h=>by simp at h,fun i ty cs h=>by simp at h,fun i es cl h=>by simp at h,fun i i' o o' b h=>by simp at h,fun i o b h=>by simp at h,fun b h=>h,fun i o b h=>by simp at h⟩

theorem FV.law{f:Nat}{args:List AV}{us:List Value}(h:∀ base:Nat,FV P f args base (.p (blP true)) [])(hn:noRefL args=true)(hus:RepL (CxW W) [] W args us):Calls P f us.toArray W fun e W'=>e = .returned (.bool true)∧Below W.heap.size W W':=by
  have hc:=(h 0).fc (bs:=[]) hn [] (fun p hp=>by simp at hp) rfl
  refine (callsIn_wide (n:=0)).1 ((hc (CxW W) W us hus (memW W) 0).mono ?_)
  rintro e w' ⟨u,rfl,C',hF,hM,hr⟩
  cases hr with
  | p _ _ h =>
    cases h
    exact ⟨rfl,hF.os,hF.tape,hF.out,hF.size,fun b hb=>hF.keep b hb fun id o ho=>by simp at ho⟩

section
variable {H:Type} {enc:TypeId × Value→H}
theorem TrodAll_below(hl:laidOutB P=true)(hb:Below W.heap.size W W'):∀ {ts:List TypeId} {vs:List Value} {ds:List (DataW H)} {ps:List MemPlace},(ts.all fun t=>P.readableRec t && decide (t<P.types.size))=true→DataW.TrodAll enc P W 0 (fun _=>true) true ts vs ds ps→(∀ x∈ps,x.block<W.heap.size) →
    DataW.TrodAll enc P W' 0 (fun b=>decide (b<W.heap.size)) true ts vs ds ps
  | [],[],[],_,_,h,_=>h
  | t::ts,v::vs,d::ds,ps,hr,⟨p,q,h1,h2,e⟩,hlt=>by
    rw [List.all_cons,Bool.and_eq_true,Bool.and_eq_true,decide_eq_true_eq] at hr
    subst e
    exact ⟨p,q,Below.trod hl hr.1.1 hr.1.2 h1 hb (fun x hx=>hlt x (List.mem_append_left _ hx)),TrodAll_below hl hb hr.2 h2 (fun x hx=>hlt x (List.mem_append_right _ hx)),rfl⟩
  | [],_::_,_,_,_,h,_=>h.elim
  | _::_,[],_,_,_,h,_=>h.elim
  | [],[],_::_,_,_,h,_=>h.elim
  | _::_,_::_,[],_,_,h,_=>h.elim

theorem spot_none{a:Addr}{v:Value}(h:W.cell? (a.add 0)=some v):a=⟨a.block,a.off,none⟩:=by
  obtain ⟨b,o,s⟩:=a
  cases s with
  | none=>rfl
  | some x =>
    unfold World.cell? at h
    simp only [Addr.add,if_true] at h
    split at h <;> simp at h

theorem read_ints{t e:TypeId}{k:IntKind}{v:Value}{d:DataW H}{ps:List MemPlace}{base:Nat}(ht:P.underlying t=some (.slice e))(he:P.underlying e=some (.int k))(hc:P.cellsOf e=1)(hok:Value.okWide P W .any base t v)
    (h:DataW.Trod enc P W 0 (fun _=>true) true t v d ps):∃ l:List Int,RepP (CxW W).F W (.sl l.length (l.map fun n => .v (.int k n))) v∧(∀ n∈l,(Lit.int k n).wf=true)∧l.length≤maxLen:=by
  obtain ⟨a0,len,cap,rfl⟩:=okWide_slice ht hok
  obtain ⟨fuel,hf⟩:=h
  rcases open_ints ht he hc hf with ⟨hcs,hx⟩ | ⟨a,len',cap',zs,hcs,_,hl,hm,hz,hx,hcell,hwz⟩
  · simp [Value.cells] at hcs
    obtain ⟨rfl,rfl,rfl⟩:=hcs
    exact ⟨[],.sl 0 [] none 0 (fun _=>undef) (Nat.le_refl _) (Nat.zero_le _) (fun i h=>by simp at h) (fun i h=>by simp at h) (fun i h=>by simp at h),fun n h=>by simp at h,Nat.zero_le _⟩
  · simp [Value.cells] at hcs
    obtain ⟨rfl,rfl,rfl⟩:=hcs
    simp only [if_true] at hz
    have hlen:(zs.take len).length=len:=by rw [List.length_take];omega
    refine ⟨zs.take len,?_,fun n hn=>hwz n (List.mem_of_mem_take hn),by rw [hlen];omega⟩
    rw [hlen]
    refine .sl len _ (some a) cap (fun i => .int k (zs.getD i 0)) hl hm (fun i hi => ?_) (fun i hi => ?_) (fun i hi=>rfl)
    · have hi':i<len:=by rw [List.length_map,hlen] at hi;exact hi
      have q1:=spot_none (hcell 0 (by omega))
      have q2:=hcell i (by omega)
      rw [q1,Addr.add_lit] at q2
      exact ⟨a.block,a.off,by rw [← q1],World.block_lt_of_cell? W ⟨a.block,a.off+i,none⟩ q2,q2⟩
    · have hi':i<len:=by rw [List.length_map,hlen] at hi;exact hi
      simp only [List.getElem_map,List.getElem_take]
      have:zs.getD i 0=zs[i]'(by omega):=by rw [List.getD_eq_getElem?_getD,List.getElem?_eq_getElem (by omega)];rfl
      rw [this]
      exact .v _
end
end KV
end Go.Proofs
end
section
namespace Go.Proofs
open Go.RowKit
namespace KL

theorem hid{p:Prop}(h:p):Hid p:=h

theorem ret_int{k:IntKind}{a b:Int}(h:a=b):Ending.returned (.int k a) = .returned (.int k b):=by rw [h]
theorem ret_bool{a b:Bool}(h:a=b):Ending.returned (.bool a) = .returned (.bool b):=by rw [h]

def Ret(v:Value)(w:World)(e:Ending)(w':World):Prop:=e = .returned v∧Below w.heap.size w w'
def Gives(P:Program)(f:FuncId)(args:Array Value)(v:Value)(w:World):Prop:=∀ W,Below w.heap.size w W→Calls P f args W (Ret v W)

theorem Gives.below{P:Program}{f:FuncId}{args:Array Value}{v:Value}{w W:World}(h:Gives P f args v w)(hb:Below w.heap.size w W):Gives P f args v W :=
  fun W' hb'=>h W' (hb.trans (hb'.mono hb.size))

theorem bcell{W w1:World}(hb:Below W.heap.size W w1):(∀ b o,b<W.heap.size→w1.cell? ⟨b,o,none⟩=W.cell? ⟨b,o,none⟩)∧(∀ b o,b<W.heap.size→w1.frozen? ⟨b,o,none⟩=W.frozen? ⟨b,o,none⟩) :=
  ⟨fun b o h=>hb.cell (p:=⟨b,o,none⟩) h,fun b o h=>hb.frozen (p:=⟨b,o,none⟩) h⟩

theorem below_of_grown{w w':World}(h:w.grownBy w' none):Below w.heap.size w w' :=
  ⟨h.os,h.tape,h.output,h.size,fun k hk=>h.block k hk (by simp)⟩
theorem grown_of_below{w w':World}(h:Below w.heap.size w w')(row:Option Nat):w.grownBy w' row :=
  ⟨h.os,h.tape,h.output,h.size,fun k hk _=>h.block k hk⟩

def Row{α:Type}(enc:World→α→Value→Prop)(w:World)(v:Value)(l:List α):Prop :=
  ∃ (p:Option Addr) (cap:Nat),v = .slice p l.length cap∧l.length≤cap∧cap≤maxLen ∧
    ∀ i (h:i<l.length),∃ b o u,p=some ⟨b,o,none⟩∧w.cell? ⟨b,o+i,none⟩=some u∧enc w l[i] u

def IsInt(_:World)(n:Int)(u:Value):Prop:=u = .int .i64 n
abbrev Ints:=Row IsInt
abbrev Rows:=Row (fun w (l:List Int) v=>Ints w v l)

def Stays{α:Type}(enc:World→α→Value→Prop):Prop:=∀ (B:Nat) (w w':World) (x:α) (u:Value),Below B w w'→w.heap.size≤B→enc w x u→enc w' x u

theorem Row.below{α:Type}{enc:World→α→Value→Prop}(hs:Stays enc){B:Nat}{w w':World}{v:Value}{l:List α}(h:Row enc w v l)(hb:Below B w w')(hB:w.heap.size≤B):Row enc w' v l:=by
  obtain ⟨p,cap,rfl,h1,h2,h3⟩:=h
  refine ⟨p,cap,rfl,h1,h2,fun i hi => ?_⟩
  obtain ⟨b,o,u,hp,hc,he⟩:=h3 i hi
  have hlt:=World.block_lt_of_cell? w _ hc
  exact ⟨b,o,u,hp,(hb.cell (p:=⟨b,o+i,none⟩) (Nat.lt_of_lt_of_le hlt hB)).trans hc,hs B w w' _ _ hb hB he⟩

theorem stays_int:Stays IsInt:=fun _ _ _ _ _ _ _ h=>h
theorem stays_ints:Stays (fun w (l:List Int) v=>Ints w v l):=fun _ _ _ _ _ hb hB h=>Row.below stays_int h hb hB

theorem ints_below{w w':World}{v:Value}{l:List Int}(h:Ints w v l)(hb:Below w.heap.size w w'):Ints w' v l:=Row.below stays_int h hb (Nat.le_refl _)
theorem rows_below{w w':World}{v:Value}{l:List (List Int)}(h:Rows w v l)(hb:Below w.heap.size w w'):Rows w' v l:=Row.below stays_ints h hb (Nat.le_refl _)

theorem Ints.open{w:World}{v:Value}{l:List Int}(h:Ints w v l):∃ (p:Option Addr) (cap:Nat),v = .slice p l.length cap∧l.length≤cap∧cap≤maxLen ∧
    ∀ i (h:i<l.length),∃ b o,p=some ⟨b,o,none⟩∧w.cell? ⟨b,o+i,none⟩=some (.int .i64 l[i]):=by
  obtain ⟨p,cap,rfl,h1,h2,h3⟩:=h
  refine ⟨p,cap,rfl,h1,h2,fun i hi => ?_⟩
  obtain ⟨b,o,u,hp,hc,rfl⟩:=h3 i hi
  exact ⟨b,o,hp,hc⟩

theorem Row.nil{α:Type}{enc:World→α→Value→Prop}(w:World):Row enc w (.slice none 0 0) [] :=
  ⟨none,0,rfl,Nat.le_refl _,by simp [maxLen],fun i h=>by simp at h⟩

theorem Row.sliced{α:Type}{enc:World→α→Value→Prop}{w:World}{p:Option Addr}{n cap:Nat}{l:List α}(h:Row enc w (.slice p n cap) l)(i j:Nat)(hij:i≤j)(hj:j≤l.length) :
    Row enc w (Go.sliced p i j cap 1) ((l.drop i).take (j-i)):=by
  obtain ⟨p',cap',he,h1,h2,h3⟩:=h
  injection he with e1 e2 e3
  subst e1 e2 e3
  have hlen:((l.drop i).take (j-i)).length=j-i:=by simp;omega
  refine ⟨_,_,by unfold Go.sliced;rw [hlen],by rw [hlen];omega,by omega,fun k hk => ?_⟩
  rw [hlen] at hk
  obtain ⟨b,o,u,hp,hc,he⟩:=h3 (i+k) (by omega)
  subst hp
  refine ⟨b,o+i,u,?_,?_,?_⟩
  · rw [if_neg (by omega)]
    simp only [Option.map_some,Nat.mul_one,Addr.add]
    split
    · simp_all
    · rfl
  · rw [Nat.add_assoc,hc]
  · simpa using he

section
variable {P:Program} {ops:Array Oper} {rest:List Oper} {dst:Option Tmp} {ty:TypeId} {pos:String} {af:Array Edge} {a:Act} {w:World} {Q:Exit→Act→World→Prop}

theorem run_slice_lh1{α:Type}{enc:World→α→Value→Prop}{t e:TypeId}{v:Value}{l:List α}{i j:Int}(hv:Row enc w v l)
    (hu:P.underlying t=some (.slice e)) (hs:(P.info? e).map (fun i=>i.size)=some 1) (h0:0≤i) (h1:i≤j) (h2:j≤l.length) :
    ∃ v',(Instr.sliceAt t v (some (.int .i64 i)) (some (.int .i64 j)) none).run P w = .ok v' w∧Row enc w v' ((l.drop i.toNat).take (j.toNat-i.toNat)):=by
  obtain ⟨p,cap,rfl,hlc,hcm,hc⟩:=hv
  obtain ⟨ti,hti,hsz⟩:=Option.map_eq_some_iff.1 hs
  have he:P.elem t=e:=by simp [Program.elem,hu]
  have hr:=run_slice_lh (P:=P) w t p l.length cap (by rw [he];exact hu) .i64 .i64 i j h0 h1 (by omega)
  rw [he] at hr
  refine ⟨_,?_,Row.sliced ⟨p,cap,rfl,hlc,hcm,hc⟩ i.toNat j.toNat (by omega) (by omega)⟩
  rw [run_sliceAt_slice (P:=P) w t _ _ _ _ (by rw [he];exact hu),hr]
  simp [sizeOf,typeInfo,hti,hsz,Result.andThen]

theorem wpL_slice{α:Type}{enc:World→α→Value→Prop}{t e:TypeId}{x lo hi:Operand}{v:Value}{l:List α}{i j:Int}(hv:Row enc w v l)
    (hu:P.underlying t=some (.slice e)) (hs:(P.info? e).map (fun i=>i.size)=some 1)
    (hx:a.eval x=v) (hi1:a.eval lo = .int .i64 i) (hj1:a.eval hi = .int .i64 j) (h0:0≤i) (h1:i≤j) (h2:j≤l.length)
    (h:∀ v' l',l'=((l.drop i.toNat).take (j.toNat-i.toNat))→Row enc w v' l'→wpList P ops Q rest (a.put dst v') w) :
    wpList P ops Q ({ dst:=dst,op := .slice t x (some lo) (some hi) none,type:=ty,pos:=pos,after:=af,guard:=none }::rest) a w:=by
  refine wpList_plain rfl fun K hK => ?_
  obtain ⟨v',hr,hv'⟩:=run_slice_lh1 (P:=P) (t:=t) hv hu hs h0 h1 h2
  unfold Oper.wp
  simp only [execOp,hx,hi1,hj1,Option.map_some,Option.map_none,Sem.run_bind,hr]
  exact hK _ _ (h _ _ rfl hv')

end

end KL
end Go.Proofs
end
section
namespace Go.Proofs
open Go.RowKit
namespace KL

theorem info3:(Tryz.prog.info? 3).map (fun i=>i.size)=some 1:=by kernel_rfl
set_option maxHeartbeats 400000 in
theorem within_any(n lo hi:Int)(w:World) :
    Calls Tryz.prog 92 #[.int .i64 n,.int .i64 lo,.int .i64 hi] w fun e w'=>e = .returned (.bool (decide (lo≤n∧n≤hi)))∧w=w':=by
  by_cases h1:lo≤n <;> by_cases h2:n≤hi
  all_goals
    go_enter Tryz.func92,Tryz.ntmps92
    go_wp2
    go_ret
    simp [h1,h2]

def sumR(l:List Int):Int:=l.foldl (fun a x=>wrap64 (a+x)) 0

theorem sumR_snoc(l:List Int)(k:Nat)(h:k<l.length):sumR (l.take (k+1))=wrap64 (sumR (l.take k)+l[k]):=by
  unfold sumR
  rw [List.take_succ_eq_append_getElem h,List.foldl_append]
  rfl

set_option maxHeartbeats 400000 in
theorem sum_any(v:Value)(l:List Int)(w:World)(hv:Ints w v l) :
    Calls Tryz.prog 101 #[v] w fun e w'=>e = .returned (.int .i64 (sumR l))∧w=w':=by
  obtain ⟨p,cap,rfl,hlc,hcm,hc⟩:=hv.open
  unfold maxLen at hcm
  go_enter Tryz.func101,Tryz.ntmps101
  go_wp2
  go_loop [3,8] (fun s i=>∃ k:Nat,k≤l.length∧i = .int .i64 k∧s = .int .i64 (sumR (l.take k))) (fun _ i=>l.length-(intOf i).toNat)
  case atStart=>exact ⟨0,Nat.zero_le _,rfl,rfl⟩
  case round =>
    obtain ⟨k,hk,rfl,rfl⟩:=hrel
    by_cases hlt:k<l.length
    · obtain ⟨b,o,rfl,hcell⟩:=hc k hlt
      have HS:=hid (sumR_snoc l k hlt)
      clear hc
      go_wp2
      go_round
      case rel=>exact ⟨k+1,by omega,by go_num,by rw [HS.out]⟩
      case measure=>simp [intOf];omega
    · go_wp2
      go_ret
      have:l.take k=l:=List.take_of_length_le (by omega)
      exact ⟨ret_int (by rw [this]),rfl⟩

def cmpI(x y:Int):Int:=if x<y then -1 else if y<x then 1 else 0

set_option maxHeartbeats 400000 in
theorem isNaN_any(x:Int)(w:World):Calls Tryz.prog 155 #[.int .i64 x] w fun e w'=>e = .returned (.bool false)∧w=w':=by
  go_enter Tryz.func155,Tryz.ntmps155
  go_wp2
  go_ret
  simp

set_option maxHeartbeats 400000 in
theorem compare_any(x y:Int)(w:World):Calls Tryz.prog 100 #[.int .i64 x,.int .i64 y] w fun e w'=>e = .returned (.int .i64 (cmpI x y))∧w=w':=by
  by_cases h:x<y
  · have hh:=hid (show cmpI x y = -1 by unfold cmpI;rw [if_pos h])
    go_enter Tryz.func100,Tryz.ntmps100
    go_wp2_with (go_at_call 155;refine (isNaN_any _ _).mono ?_;rintro e w' ⟨rfl,rfl⟩)
    go_ret
    exact ⟨ret_int hh.out.symm,rfl⟩
  · by_cases h2:y<x
    · have hh:=hid (show cmpI x y=1 by unfold cmpI;rw [if_neg h,if_pos h2])
      go_enter Tryz.func100,Tryz.ntmps100
      go_wp2_with (go_at_call 155;refine (isNaN_any _ _).mono ?_;rintro e w' ⟨rfl,rfl⟩)
      go_ret
      exact ⟨ret_int hh.out.symm,rfl⟩
    · have hh:=hid (show cmpI x y=0 by unfold cmpI;rw [if_neg h,if_neg h2])
      go_enter Tryz.func100,Tryz.ntmps100
      go_wp2_with (go_at_call 155;refine (isNaN_any _ _).mono ?_;rintro e w' ⟨rfl,rfl⟩)
      go_ret
      exact ⟨ret_int hh.out.symm,rfl⟩

structure PredOn {α:Type} (P:Program) (g:FuncId) (lb:Array Value) (enc:World→α→Value→Prop) (p:α→Bool) (l:List α) (w:World):Prop where
  enters:∀ args W,(callFunc g args).run P W = .ok (.enter g args) W
  gives:∀ W x u,x∈l→Below w.heap.size w W→enc W x u→Calls P g (#[u]++lb) W (Ret (.bool (p x)) W)

def idxOf{α:Type}(p:α→Bool)(l:List α):Int:=match l.findIdx? p with | some i=>(i:Int) | none => -1

theorem idxOf_at{α:Type}{p:α→Bool}{l:List α}{k:Nat}(hk:k<l.length)(hb:∀ j (h:j<l.length),j<k→p l[j]=false)(hp:p l[k]=true):idxOf p l=k:=by
  have:l.findIdx? p=some k:=by
    rw [List.findIdx?_eq_some_iff_getElem]
    exact ⟨hk,hp,fun j hj=>by simp [hb j (by omega) hj]⟩
  simp [idxOf,this]
theorem idxOf_none{α:Type}{p:α→Bool}{l:List α}(hb:∀ j (h:j<l.length),j<l.length→p l[j]=false):idxOf p l = -1:=by
  have:l.findIdx? p=none:=by
    rw [List.findIdx?_eq_none_iff]
    intro x hx
    obtain ⟨j,hj,rfl⟩:=List.getElem_of_mem hx
    simpa using hb j hj hj
  simp [idxOf,this]

set_option maxHeartbeats 400000 in
theorem indexFunc_ints(v:Value)(l:List Int)(g:FuncId)(lb:Array Value)(p:Int→Bool)(w:World)(hv:Ints w v l)(hp:PredOn Tryz.prog g lb IsInt p l w) :
    Calls Tryz.prog 138 #[v,.func (.func g) #[] lb] w (Ret (.int .i64 (idxOf p l)) w):=by
  obtain ⟨q,cap,rfl,hlc,hcm,hc⟩:=hv.open
  unfold maxLen at hcm
  have eg:=hp.enters
  go_enter Tryz.func138,Tryz.ntmps138
  go_wp2
  go_loopw [8] (fun i wr=>∃ k:Nat,k≤l.length∧i = .int .i64 k∧Below w.heap.size w wr∧∀ j (h:j<l.length),j<k→p l[j]=false) (fun i _=>l.length-(intOf i).toNat)
  case atStart=>exact ⟨0,Nat.zero_le _,rfl,Below.refl _ _,fun j _ h=>by omega⟩
  case round =>
    obtain ⟨k,hk,rfl,hB,hn⟩:=hrel
    have HB:=hid hB
    have HN:=hid hn
    clear hB hn
    by_cases hlt:k<l.length
    · obtain ⟨b,o,rfl,hcell0⟩:=hc k hlt
      have hcell:wr.cell? ⟨b,o+k,none⟩=some (.int .i64 l[k]):=(HB.out.cell (p:=⟨b,o+k,none⟩) (World.block_lt_of_cell? w _ hcell0)).trans hcell0
      clear hc hcell0
      have HG:=hid (hp.gives wr l[k] (.int .i64 l[k]) (by simp) HB.out rfl)
      cases hpk:p l[k] with
      | true =>
        rw [hpk] at HG
        go_wp2_with (refine HG.out.mono ?_;rintro e w1 ⟨rfl,hb1⟩)
        go_ret
        exact ⟨ret_int (idxOf_at hlt HN.out hpk).symm,HB.out.trans (hb1.mono HB.out.size)⟩
      | false =>
        rw [hpk] at HG
        go_wp2_with (refine HG.out.mono ?_;rintro e w1 ⟨rfl,hb1⟩)
        go_roundw
        case rel => 
          refine ⟨k+1,by omega,by go_num,HB.out.trans (hb1.mono HB.out.size),fun j hj hjk => ?_⟩
          by_cases hj2:j=k
          · subst hj2;exact hpk
          · exact HN.out j hj (by omega)
        case measure=>simp [intOf];omega
    · go_wp2
      go_ret
      exact ⟨ret_int (idxOf_none fun j hj _=>HN.out j hj (by omega)).symm,HB.out⟩
end KL
end Go.Proofs
end
section
namespace Go.Proofs
open Go.RowKit
namespace KL

theorem Rows.open{w:World}{v:Value}{l:List (List Int)}(h:Rows w v l):∃ (p:Option Addr) (cap:Nat),v = .slice p l.length cap∧l.length≤cap∧cap≤maxLen ∧
    ∀ i (h:i<l.length),∃ b o u,p=some ⟨b,o,none⟩∧w.cell? ⟨b,o+i,none⟩=some u∧Ints w u l[i]:=h

set_option maxHeartbeats 400000 in
theorem indexFunc_rows(v:Value)(l:List (List Int))(g:FuncId)(lb:Array Value)(p:List Int→Bool)(w:World)(hv:Rows w v l)(hp:PredOn Tryz.prog g lb (fun w (l:List Int) v=>Ints w v l) p l w) :
    Calls Tryz.prog 161 #[v,.func (.func g) #[] lb] w (Ret (.int .i64 (idxOf p l)) w):=by
  obtain ⟨q,cap,rfl,hlc,hcm,hc⟩:=hv.open
  unfold maxLen at hcm
  have eg:=hp.enters
  go_enter Tryz.func161,Tryz.ntmps161
  go_wp2
  go_loopw [8] (fun i wr=>∃ k:Nat,k≤l.length∧i = .int .i64 k∧Below w.heap.size w wr∧∀ j (h:j<l.length),j<k→p l[j]=false) (fun i _=>l.length-(intOf i).toNat)
  case atStart=>exact ⟨0,Nat.zero_le _,rfl,Below.refl _ _,fun j _ h=>by omega⟩
  case round =>
    obtain ⟨k,hk,rfl,hB,hn⟩:=hrel
    have HB:=hid hB
    have HN:=hid hn
    clear hB hn
    by_cases hlt:k<l.length
    · obtain ⟨b,o,u,rfl,hcell0,hu0⟩:=hc k hlt
      have hcell:wr.cell? ⟨b,o+k,none⟩=some u:=(HB.out.cell (p:=⟨b,o+k,none⟩) (World.block_lt_of_cell? w _ hcell0)).trans hcell0
      clear hc hcell0
      have HG:=hid (hp.gives wr l[k] u (by simp) HB.out (ints_below hu0 HB.out))
      cases hpk:p l[k] with
      | true =>
        rw [hpk] at HG
        go_wp2_with (refine HG.out.mono ?_;rintro e w1 ⟨rfl,hb1⟩)
        go_ret
        exact ⟨ret_int (idxOf_at hlt HN.out hpk).symm,HB.out.trans (hb1.mono HB.out.size)⟩
      | false =>
        rw [hpk] at HG
        go_wp2_with (refine HG.out.mono ?_;rintro e w1 ⟨rfl,hb1⟩)
        go_roundw
        case rel => 
          refine ⟨k+1,by omega,by go_num,HB.out.trans (hb1.mono HB.out.size),fun j hj hjk => ?_⟩
          by_cases hj2:j=k
          · subst hj2;exact hpk
          · exact HN.out j hj (by omega)
        case measure=>simp [intOf];omega
    · go_wp2
      go_ret
      exact ⟨ret_int (idxOf_none fun j hj _=>HN.out j hj (by omega)).symm,HB.out⟩

theorem idxOf_any{α:Type}(p:α→Bool)(l:List α):decide (0≤idxOf p l)=l.any p:=by
  unfold idxOf
  cases h:l.findIdx? p with
  | none =>
    rw [List.findIdx?_eq_none_iff] at h
    have:l.any p=false:=by rw [List.any_eq_false];intro x hx;simp [h x hx]
    simp [this]
  | some i =>
    rw [List.findIdx?_eq_some_iff_getElem] at h
    obtain ⟨hi,hp,_⟩:=h
    have:l.any p=true:=List.any_eq_true.2 ⟨l[i],by simp,hp⟩
    simp [this]

set_option maxHeartbeats 400000 in
theorem containsFunc_ints(v:Value)(l:List (Int))(g:FuncId)(lb:Array Value)(p:Int→Bool)(w:World)(hv:Ints w v l)(hp:PredOn Tryz.prog g lb IsInt p l w) :
    Calls Tryz.prog 69 #[v,.func (.func g) #[] lb] w (Ret (.bool (l.any p)) w):=by
  have HI:=hid (indexFunc_ints v l g lb p w hv hp)
  have HA:=hid (idxOf_any p l)
  clear hv hp
  go_enter Tryz.func69,Tryz.ntmps69
  go_wp2_with (go_at_call 138;refine HI.out.mono ?_;rintro e w1 ⟨rfl,hb1⟩)
  go_ret
  exact ⟨ret_bool HA.out,hb1⟩

theorem allints_pred(g:FuncId)(lb:Array Value)(p:Int→Bool)(l:List (Int))(w:World)(hp:PredOn Tryz.prog g lb IsInt p l w) :
    PredOn Tryz.prog 151 #[.pointer (some ⟨w.heap.size,0,none⟩)] IsInt (fun x => !p x) l (w.alloc (.cells #[.func (.func g) #[] lb] 98)):=by
  refine ⟨enters_of Tryz.func151 (by kernel_rfl) rfl,fun W x u hx hb henc => ?_⟩
  have hc0:=(bcell hb).1 w.heap.size 0 (by simp)
  have hc:W.cell? ⟨w.heap.size,0,none⟩=some (.func (.func g) #[] lb):=by
    rw [hc0];simp
  clear hc0
  have eg:=hp.enters
  have HG:=hid (hp.gives W x u hx (((Below.refl _ w).alloc (Nat.le_refl _) _).trans (hb.mono (by simp))) henc)
  clear hb henc hp
  go_enter Tryz.func151,Tryz.ntmps151
  go_wp2_with (refine HG.out.mono ?_;rintro e w1 ⟨rfl,hb1⟩)
  go_ret
  exact ⟨rfl,hb1⟩

theorem any_not_not{α:Type}(p:α→Bool)(l:List α):(!l.any (fun x => !p x))=l.all p:=List.all_eq_not_any_not.symm

set_option maxHeartbeats 400000 in
theorem all_ints(v:Value)(l:List (Int))(g:FuncId)(lb:Array Value)(p:Int→Bool)(w:World)(hv:Ints w v l)(hp:PredOn Tryz.prog g lb IsInt p l w) :
    Calls Tryz.prog 93 #[v,.func (.func g) #[] lb] w (Ret (.bool (l.all p)) w):=by
  have hB:=(Below.refl w.heap.size w).alloc (Nat.le_refl _) (.cells #[.func (.func g) #[] lb] 98)
  have HI:=hid (containsFunc_ints v l 151 _ _ _ (ints_below hv hB) (allints_pred g lb p l w hp))
  have HA:=hid (any_not_not p l)
  clear hv hp
  go_enter Tryz.func93,Tryz.ntmps93
  go_wp2_with (go_at_call 69;refine HI.out.mono ?_;rintro e w1 ⟨rfl,hb1⟩)
  go_ret
  exact ⟨ret_bool HA.out,hB.trans (hb1.mono (by simp))⟩

set_option maxHeartbeats 400000 in
theorem containsFunc_rows(v:Value)(l:List (List Int))(g:FuncId)(lb:Array Value)(p:List Int→Bool)(w:World)(hv:Rows w v l)(hp:PredOn Tryz.prog g lb (fun w (l:List Int) v=>Ints w v l) p l w) :
    Calls Tryz.prog 125 #[v,.func (.func g) #[] lb] w (Ret (.bool (l.any p)) w):=by
  have HI:=hid (indexFunc_rows v l g lb p w hv hp)
  have HA:=hid (idxOf_any p l)
  clear hv hp
  go_enter Tryz.func125,Tryz.ntmps125
  go_wp2_with (go_at_call 161;refine HI.out.mono ?_;rintro e w1 ⟨rfl,hb1⟩)
  go_ret
  exact ⟨ret_bool HA.out,hb1⟩

theorem allrows_pred(g:FuncId)(lb:Array Value)(p:List Int→Bool)(l:List (List Int))(w:World)(hp:PredOn Tryz.prog g lb (fun w (l:List Int) v=>Ints w v l) p l w) :
    PredOn Tryz.prog 160 #[.pointer (some ⟨w.heap.size,0,none⟩)] (fun w (l:List Int) v=>Ints w v l) (fun x => !p x) l (w.alloc (.cells #[.func (.func g) #[] lb] 93)):=by
  refine ⟨enters_of Tryz.func160 (by kernel_rfl) rfl,fun W x u hx hb henc => ?_⟩
  have hc0:=(bcell hb).1 w.heap.size 0 (by simp)
  have hc:W.cell? ⟨w.heap.size,0,none⟩=some (.func (.func g) #[] lb):=by
    rw [hc0];simp
  clear hc0
  have eg:=hp.enters
  have HG:=hid (hp.gives W x u hx (((Below.refl _ w).alloc (Nat.le_refl _) _).trans (hb.mono (by simp))) henc)
  clear hb henc hp
  go_enter Tryz.func160,Tryz.ntmps160
  go_wp2_with (refine HG.out.mono ?_;rintro e w1 ⟨rfl,hb1⟩)
  go_ret
  exact ⟨rfl,hb1⟩

set_option maxHeartbeats 400000 in
theorem all_rows(v:Value)(l:List (List Int))(g:FuncId)(lb:Array Value)(p:List Int→Bool)(w:World)(hv:Rows w v l)(hp:PredOn Tryz.prog g lb (fun w (l:List Int) v=>Ints w v l) p l w) :
    Calls Tryz.prog 120 #[v,.func (.func g) #[] lb] w (Ret (.bool (l.all p)) w):=by
  have hB:=(Below.refl w.heap.size w).alloc (Nat.le_refl _) (.cells #[.func (.func g) #[] lb] 93)
  have HI:=hid (containsFunc_rows v l 160 _ _ _ (rows_below hv hB) (allrows_pred g lb p l w hp))
  have HA:=hid (any_not_not p l)
  clear hv hp
  go_enter Tryz.func120,Tryz.ntmps120
  go_wp2_with (go_at_call 125;refine HI.out.mono ?_;rintro e w1 ⟨rfl,hb1⟩)
  go_ret
  exact ⟨ret_bool HA.out,hB.trans (hb1.mono (by simp))⟩

end KL
end Go.Proofs
end
section
namespace Go.Proofs
open Go.Shelf
def Tryz.lays125_ren:Go.Shelf.Ren:=⟨fun | 125=>143 | 128=>182 | 129=>183 | n=>n,fun | 46=>178 | 3=>3 | 51=>139 | 53=>200 | 4=>4 | 5=>5 | 9=>9 | n=>n,fun | n=>n⟩
theorem Tryz.lays125:Go.Proofs.Lays.n125 Tryz.prog Tryz.lays125_ren:={
  mixed:=by kernel_rfl
  f125:=Tryz.func143.trans (congrArg some (by kernel_rfl))
  f128:=Tryz.func182.trans (congrArg some (by kernel_rfl))
  f129:=Tryz.func183.trans (congrArg some (by kernel_rfl))
  t3:=Tryz.underlying3
  a3:=Tryz.isAgg3
  z3:=Tryz.sizeOf3
  v3:=Tryz.zeroValue3
  t4:=Tryz.underlying4
  a4:=Tryz.isAgg4
  z4:=Tryz.sizeOf4
  v4:=Tryz.zeroValue4
  t5:=Tryz.underlying5
  a5:=Tryz.isAgg5
  z5:=Tryz.sizeOf5
  v5:=Tryz.zeroValue5
  t9:=Tryz.underlying9
  a9:=Tryz.isAgg9
  z9:=Tryz.sizeOf9
  v9:=Tryz.zeroValue9
  t46:=Tryz.underlying178
  a46:=Tryz.isAgg178
  z46:=Tryz.sizeOf178
  v46:=Tryz.zeroValue178
  t51:=Tryz.underlying139
  a51:=Tryz.isAgg139
  z51:=Tryz.sizeOf139
  v51:=Tryz.zeroValue139
  t53:=Tryz.underlying200
  a53:=Tryz.isAgg200
  z53:=Tryz.sizeOf200
  v53:=Tryz.zeroValue200 }
theorem Tryz.bits_Len(x:Int)(w:World)(h0:0≤x)(h1:x≤18446744073709551615) :
    Calls Tryz.prog 143 #[.int .u64 x] w fun e w'=>e = .returned (.int .i64 (Lib.bitLen x.toNat))∧w'=w:=Any.bits_Len Tryz.lays125 x w h0 h1
def Tryz.lays189_ren:Go.Shelf.Ren:=⟨fun | 189=>85 | 125=>143 | 257=>142 | 128=>182 | 129=>183 | 294=>173 | 295=>174 | 296=>175 | 297=>176 | 298=>177 | 299=>178 | 216=>179 | 300=>180 | 301=>181 | 328=>203 | 329=>204 | 330=>205 | 331=>206 | 332=>207 | 215=>155 | 343=>219 | n=>n,fun | 28=>22 | 3=>3 | 46=>178 | 0=>0 | 51=>139 | 53=>200 | 4=>4 | 183=>193 | 182=>192 | 131=>113 | 5=>5 | 9=>9 | 218=>218 | 222=>116 | 228=>227 | 229=>228 | n=>n,fun | n=>n⟩
theorem Tryz.lays189:Go.Proofs.Lays.n189 Tryz.prog Tryz.lays189_ren:={
  mixed:=by kernel_rfl
  f125:=Tryz.func143.trans (congrArg some (by kernel_rfl))
  f128:=Tryz.func182.trans (congrArg some (by kernel_rfl))
  f129:=Tryz.func183.trans (congrArg some (by kernel_rfl))
  f189:=Tryz.func85.trans (congrArg some (by kernel_rfl))
  f215:=Tryz.func155.trans (congrArg some (by kernel_rfl))
  f216:=Tryz.func179.trans (congrArg some (by kernel_rfl))
  f257:=Tryz.func142.trans (congrArg some (by kernel_rfl))
  f294:=Tryz.func173.trans (congrArg some (by kernel_rfl))
  f295:=Tryz.func174.trans (congrArg some (by kernel_rfl))
  f296:=Tryz.func175.trans (congrArg some (by kernel_rfl))
  f297:=Tryz.func176.trans (congrArg some (by kernel_rfl))
  f298:=Tryz.func177.trans (congrArg some (by kernel_rfl))
  f299:=Tryz.func178.trans (congrArg some (by kernel_rfl))
  f300:=Tryz.func180.trans (congrArg some (by kernel_rfl))
  f301:=Tryz.func181.trans (congrArg some (by kernel_rfl))
  f328:=Tryz.func203.trans (congrArg some (by kernel_rfl))
  f329:=Tryz.func204.trans (congrArg some (by kernel_rfl))
  f330:=Tryz.func205.trans (congrArg some (by kernel_rfl))
  f331:=Tryz.func206.trans (congrArg some (by kernel_rfl))
  f332:=Tryz.func207.trans (congrArg some (by kernel_rfl))
  f343:=Tryz.func219.trans (congrArg some (by kernel_rfl))
  t0:=Tryz.underlying0
  a0:=Tryz.isAgg0
  z0:=Tryz.sizeOf0
  v0:=Tryz.zeroValue0
  t3:=Tryz.underlying3
  a3:=Tryz.isAgg3
  z3:=Tryz.sizeOf3
  v3:=Tryz.zeroValue3
  t4:=Tryz.underlying4
  a4:=Tryz.isAgg4
  z4:=Tryz.sizeOf4
  v4:=Tryz.zeroValue4
  t5:=Tryz.underlying5
  a5:=Tryz.isAgg5
  z5:=Tryz.sizeOf5
  v5:=Tryz.zeroValue5
  t9:=Tryz.underlying9
  a9:=Tryz.isAgg9
  z9:=Tryz.sizeOf9
  v9:=Tryz.zeroValue9
  t28:=Tryz.underlying22
  a28:=Tryz.isAgg22
  z28:=Tryz.sizeOf22
  v28:=Tryz.zeroValue22
  t46:=Tryz.underlying178
  a46:=Tryz.isAgg178
  z46:=Tryz.sizeOf178
  v46:=Tryz.zeroValue178
  t51:=Tryz.underlying139
  a51:=Tryz.isAgg139
  z51:=Tryz.sizeOf139
  v51:=Tryz.zeroValue139
  t53:=Tryz.underlying200
  a53:=Tryz.isAgg200
  z53:=Tryz.sizeOf200
  v53:=Tryz.zeroValue200
  t131:=Tryz.underlying113
  a131:=Tryz.isAgg113
  z131:=Tryz.sizeOf113
  v131:=Tryz.zeroValue113
  t182:=Tryz.underlying192
  a182:=Tryz.isAgg192
  z182:=Tryz.sizeOf192
  v182:=Tryz.zeroValue192
  t183:=Tryz.underlying193
  a183:=Tryz.isAgg193
  z183:=Tryz.sizeOf193
  v183:=Tryz.zeroValue193
  t218:=Tryz.underlying218
  a218:=Tryz.isAgg218
  z218:=Tryz.sizeOf218
  v218:=Tryz.zeroValue218
  t222:=Tryz.underlying116
  a222:=Tryz.isAgg116
  z222:=Tryz.sizeOf116
  v222:=Tryz.zeroValue116
  t228:=Tryz.underlying227
  a228:=Tryz.isAgg227
  z228:=Tryz.sizeOf227
  v228:=Tryz.zeroValue227
  t229:=Tryz.underlying228
  a229:=Tryz.isAgg228
  z229:=Tryz.sizeOf228
  v229:=Tryz.zeroValue228 }
open Go.Sort Go.RowKit in
theorem Tryz.slices_Sort_int(blk off cap:Nat)(zs:List Int)(w:World)(hH:Holds (Value.int .i64) w blk off zs.toArray)(hblk:blk<w.heap.size)(hsz:zs.length<4611686018427387904) :
    Calls Tryz.prog 85 #[.slice (some ⟨blk,off,none⟩) zs.length cap] w fun e w' =>
      e = .returned (.tuple #[])∧∃ n os,w'=grow (putRow (Value.int .i64) (Sort.ahead w n) blk off (zs.mergeSort fun x y=>decide (x≤y)).toArray) os:=Any.slices_Sort_int Tryz.lays189 blk off cap zs w hH hblk hsz
def Tryz.laysNm215_ren:Go.Shelf.Ren:=⟨fun | 15=>150 | n=>n,fun | 22=>22 | 3=>3 | 4=>4 | n=>n,fun | n=>n⟩
theorem Tryz.laysNm215:Go.Proofs.Lays2.n15 Tryz.prog Tryz.laysNm215_ren:={
  mixed:=by kernel_rfl
  f15:=Tryz.func150.trans (congrArg some (by kernel_rfl))
  t3:=Tryz.underlying3
  a3:=Tryz.isAgg3
  z3:=Tryz.sizeOf3
  v3:=Tryz.zeroValue3
  t4:=Tryz.underlying4
  a4:=Tryz.isAgg4
  z4:=Tryz.sizeOf4
  v4:=Tryz.zeroValue4
  t22:=Tryz.underlying22
  a22:=Tryz.isAgg22
  z22:=Tryz.sizeOf22
  v22:=Tryz.zeroValue22
  i3:=by kernel_rfl }
open Go.RowKit Go.Lib in
theorem Tryz.slices_Clone_int(b off n c:Nat)(zs:List Int)(w:World)(hz:n≤zs.length)(hbig:n*8≤140737488355328)(hc:∀ j,j<zs.length→w.cell? ⟨b,off+j,none⟩=some (.int .i64 (zs.getD j 0))) :
    Calls Tryz.prog 150 #[.slice (some ⟨b,off,none⟩) n c] w fun e w'=>∃ v',e = .returned v'∧w'.ownsRow w.heap.size 3 1 v' n ((zs.take n).map (Value.int .i64))∧v' ≠ .slice none 0 0∧Below w.heap.size w w':=Any.slices_Clone_int Tryz.laysNm215 b off n c zs w hz hbig hc
open Go.RowKit Go.Lib in
theorem Tryz.slices_Clone_int_nil(n c:Nat)(w:World) :
    Calls Tryz.prog 150 #[.slice none n c] w fun e w'=>e = .returned (.slice none 0 0)∧w'=w:=Any.slices_Clone_int_nil Tryz.laysNm215 n c w
open Go.RowKit Go.Lib in
theorem Tryz.slices_Clone_int_zero(a:Addr)(c:Nat)(w:World) :
    Calls Tryz.prog 150 #[.slice (some a) 0 c] w fun e w'=>∃ v',e = .returned v'∧w'.ownsRow w.heap.size 3 1 v' 0 []∧v' ≠ .slice none 0 0∧Below w.heap.size w w':=Any.slices_Clone_int_zero Tryz.laysNm215 a c w
open Go.RowKit Go.Sort in
theorem Tryz.slices_Sort_int_none(p:Option Addr)(cap:Nat)(w:World) :
    Calls Tryz.prog 85 #[.slice p 0 cap] w fun e w'=>e = .returned (.tuple #[])∧w'=w:=Any.slices_Sort_int_none Tryz.lays189 p cap w
def Tryz.layDel_ren:Go.Shelf.Ren:=⟨fun | 10=>162 | 6=>138 | n=>n,fun | 22=>22 | 23=>3 | 25=>98 | 3=>3 | 4=>4 | 0=>0 | n=>n,fun | n=>n⟩
theorem Tryz.layDel:Go.Proofs.SlLaysH.n10 Tryz.prog Tryz.layDel_ren:={
  mixed:=by kernel_rfl
  f6:=⟨Tryz.f138.name,by decide,Tryz.func138.trans (congrArg some (by kernel_rfl))⟩
  f10:=⟨Tryz.f162.name,by decide,Tryz.func162.trans (congrArg some (by kernel_rfl))⟩
  t0:=Tryz.underlying0
  a0:=Tryz.isAgg0
  z0:=Tryz.sizeOf0
  v0:=Tryz.zeroValue0
  t3:=Tryz.underlying3
  a3:=Tryz.isAgg3
  z3:=Tryz.sizeOf3
  v3:=Tryz.zeroValue3
  t4:=Tryz.underlying4
  a4:=Tryz.isAgg4
  z4:=Tryz.sizeOf4
  v4:=Tryz.zeroValue4
  t22:=Tryz.underlying22
  a22:=Tryz.isAgg22
  z22:=Tryz.sizeOf22
  v22:=Tryz.zeroValue22
  a23:=Tryz.isAgg3
  z23:=Tryz.sizeOf3
  t25:=Tryz.underlying98
  a25:=Tryz.isAgg98
  z25:=Tryz.sizeOf98
  v25:=Tryz.zeroValue98 }
end Go.Proofs
end
section
namespace Go.Proofs
open Go.RowKit Go.Lib Go.Sort
namespace KL

def OwnI(w:World)(base:Nat)(v:Value)(l:List Int):Prop:=w.ownsRow base 3 1 v l.length (l.map (Value.int .i64))

theorem OwnI.ints{w:World}{base:Nat}{v:Value}{l:List Int}(h:OwnI w base v l):Ints w v l:=by
  have hl:=h.1
  rcases h.2 with ⟨rfl,h0⟩ | ⟨g,cap,cur,rfl,hb,hg,hn,hm,hs,ht⟩
  · have:l=[]:=List.eq_nil_of_length_eq_zero h0
    subst this
    exact Row.nil w
  · refine ⟨_,cap,rfl,hn,hm,fun i hi=>⟨g,0,_,rfl,?_,rfl⟩⟩
    have:=World.ownsRow.cellAt (g:=g) (cap:=cap) h i (by omega)
    rw [Nat.zero_add,this]
    simp

theorem OwnI.later{w w':World}{base base':Nat}{v:Value}{l:List Int}(h:OwnI w base v l)(hb:Below w.heap.size w w')(hB:base'≤base):OwnI w' base' v l:=by
  refine ⟨h.1,?_⟩
  rcases h.2 with hn | ⟨g,cap,cur,hv,hg,hh,r⟩
  · exact Or.inl hn
  · exact Or.inr ⟨g,cap,cur,hv,Nat.le_trans hB hg,(hb.block g (lt_of_block hh)).trans hh,r⟩

theorem OwnI.form{w:World}{base:Nat}{v:Value}{l:List Int}(h:OwnI w base v l):∃ p cap,v = .slice p l.length cap:=by
  rcases h.2 with ⟨rfl,h0⟩ | ⟨g,cap,cur,rfl,_⟩
  · exact ⟨none,0,by rw [h0]⟩
  · exact ⟨_,_,rfl⟩

def RetOwn(l:List Int)(w:World)(e:Ending)(w':World):Prop:=∃ p n cap,e = .returned (.slice p n cap)∧n=l.length∧OwnI w' w.heap.size (.slice p n cap) l∧Below w.heap.size w w'
theorem RetOwn.of{l:List Int}{w w':World}{v:Value}(h:OwnI w' w.heap.size v l)(hb:Below w.heap.size w w'):RetOwn l w (.returned v) w':=by
  obtain ⟨p,cap,rfl⟩:=h.form
  exact ⟨p,_,cap,rfl,rfl,h,hb⟩

theorem clone_own(v:Value)(l:List Int)(w:World)(hv:Ints w v l)(hlen:l.length≤1000):Calls Tryz.prog 150 #[v] w (RetOwn l w):=by
  obtain ⟨p,cap,rfl,hlc,hcm,hc⟩:=hv.open
  cases p with
  | none =>
    have h0:l=[]:=by
      cases l with
      | nil=>rfl
      | cons x r=>obtain ⟨b,o,h,_⟩:=hc 0 (by simp);cases h
    subst h0
    refine (Tryz.slices_Clone_int_nil _ _ w).mono ?_
    rintro e w' ⟨rfl,rfl⟩
    exact RetOwn.of (World.ownsRow_nil _ _ _ _) (Below.refl _ _)
  | some a =>
    cases l with
    | nil =>
      refine (Tryz.slices_Clone_int_zero a _ w).mono ?_
      rintro e w' ⟨v',rfl,h1,_,h2⟩
      exact RetOwn.of h1 h2
    | cons x r =>
      obtain ⟨b,o,h,_⟩:=hc 0 (by simp)
      cases h
      refine (Tryz.slices_Clone_int b o (x::r).length cap (x::r) w (Nat.le_refl _) (by omega) (fun j hj => ?_)).mono ?_
      · obtain ⟨b',o',h,hcell⟩:=hc j hj
        cases h
        rw [hcell,List.getD_eq_getElem?_getD,List.getElem?_eq_getElem hj]
        rfl
      · rintro e w' ⟨v',rfl,h1,_,h2⟩
        rw [List.take_length] at h1
        exact RetOwn.of h1 h2

def leB:Int→Int→Bool:=fun x y=>decide (x≤y)

theorem sort_own(base:Nat)(v:Value)(l:List Int)(w:World)(hv:OwnI w base v l)(hlen:l.length≤1000) :
    Calls Tryz.prog 85 #[v] w fun e w'=>e = .returned (.tuple #[])∧OwnI w' base v (l.mergeSort leB)∧w.grownBy w' v.ownBlock:=by
  have hown:=hv
  rcases hv.2 with ⟨rfl,h0⟩ | ⟨g,cap,cur,rfl,hb,hg,hn,hm,hs,ht⟩
  · have:l=[]:=List.eq_nil_of_length_eq_zero h0
    subst this
    refine (Tryz.slices_Sort_int_none none 0 w).mono ?_
    rintro e w' ⟨rfl,rfl⟩
    exact ⟨rfl,by simpa using hown,World.grownBy.refl _ _⟩
  · have hlt:=lt_of_block hg
    refine (Tryz.slices_Sort_int g 0 cap l w (holds_of_blockI hg (by simpa using ht)) hlt (by omega)).mono ?_
    rintro e w' ⟨rfl,n,os,rfl⟩
    refine ⟨rfl,?_,grownBy_sortedI _⟩
    have hl:(l.mergeSort leB).length=l.length:=List.length_mergeSort l
    unfold OwnI
    rw [hl]
    exact ownsRow_sortedI hl hb hg hn hm hs

structure PureI (P:Program) (g:FuncId) (p:Int→Bool):Prop where
  enters:∀ args W,(callFunc g args).run P W = .ok (.enter g args) W
  gives:∀ W x,Calls P g #[.int .i64 x] W fun e w'=>e = .returned (.bool (p x))∧W=w'

theorem delete_own(base:Nat)(v:Value)(l:List Int)(g:FuncId)(p:Int→Bool)(w:World)(hp:PureI Tryz.prog g p)(hv:OwnI w base v l)(hlen:l.length≤1000) :
    Calls Tryz.prog 162 #[v,.func (.func g) #[] #[]] w fun e w'=>∃ p' n' cap',e = .returned (.slice p' n' cap')∧n'=(l.filter fun x => !p x).length∧OwnI w' base (.slice p' n' cap') (l.filter fun x => !p x)∧w.grownBy w' v.ownBlock∧((Value.slice p' n' cap').ownBlock=v.ownBlock):=by
  have hown:=hv
  rcases hv.2 with ⟨rfl,h0⟩ | ⟨b,cap,cur,rfl,hb,hg,hn,hm,hs,ht⟩
  · have:l=[]:=List.eq_nil_of_length_eq_zero h0
    subst this
    have eg:=hp.enters
    have HI:=hid (indexFunc_ints (.slice none 0 0) [] g #[] p w (Row.nil w) ⟨hp.enters,fun W x u hx _ _=>by simp at hx⟩)
    have HX:=hid (show idxOf p [] = -1 from rfl)
    rw [HX.out] at HI
    clear hp hv hown
    go_enter Tryz.func162,Tryz.ntmps162
    go_wp2_with (go_at_call 138;refine HI.out.mono ?_;rintro e w1 ⟨rfl,hb1⟩)
    go_ret
    exact ⟨_,_,_,rfl,rfl,World.ownsRow_nil _ _ _ _,grown_of_below hb1 _,rfl⟩
  · have hlt:=lt_of_block hg
    refine (AnyE.slices_DeleteFunc Tryz.layDel (Value.int .i64) (fun _=>rfl) p g #[] hp.enters 0 Tryz.zeroValue3 b 0 cap l.toArray w
      (fun W x _=>(hp.gives W x).mono fun e w' ⟨he,hw⟩=>⟨he,0,hw.symm⟩) (fun n os dk x _=>(hp.gives _ x).mono fun e w' ⟨he,hw⟩=>⟨he,0,hw.symm⟩)
      (holds_of_blockI hg (by simpa using ht)) (by simp;omega) (by simpa using hn)).mono ?_
    rintro e w' ⟨rfl,q,rfl⟩
    have hfl:(l.filter fun x => !p x).length≤l.length:=List.length_filter_le _ _
    refine ⟨_,_,_,rfl,rfl,?_,?_,rfl⟩
    · have:=ownsRow_putRow (enc:=Value.int .i64) (q:=q) (k:=(l.filter fun x => !p x).length) (ys:=(l.filter fun x => !p x)++List.replicate (l.length-(l.filter fun x => !p x).length) 0) hown (by simp;omega) hfl
      unfold OwnI
      simpa using this
    · exact grownBy_sortedI (os := #[]) (n:=q) (g:=b) (w:=w) (((l.filter fun x => !p x)++List.replicate (l.length-(l.filter fun x => !p x).length) 0).toArray)

def nz(p:Int):Bool:=decide (p=0)

theorem pure154:PureI Tryz.prog 163 nz:=by
  refine ⟨enters_of Tryz.func163 (by kernel_rfl) rfl,fun W x => ?_⟩
  by_cases h:x=0
  · have hh:=hid (show nz x=true by simp [nz,h])
    have hx:(x == 0)=true:=by simp [h]
    have h':=hid h
    clear h
    go_enter Tryz.func163,Tryz.ntmps163
    go_wp2
    go_ret
    exact ⟨ret_bool hh.out.symm,rfl⟩
  · have hh:=hid (show nz x=false by simp [nz,h])
    have hx:(x == 0)=false:=by simp [h]
    have h':=hid h
    clear h
    go_enter Tryz.func163,Tryz.ntmps163
    go_wp2
    go_ret
    exact ⟨ret_bool hh.out.symm,rfl⟩

def placesOf(race:List Int):List Int:=(race.filter fun x => !nz x).mergeSort leB

def clashLoop:Option Int→Int→List Int→Option Int
  | _,free,[]=>some free
  | prev,free,p::r=>if prev=some p then clashLoop (some p) (free+1) r else if p<free then none else clashLoop (some p) (p+1) r

def clashR(race:List Int):Bool:=match clashLoop none 1 (placesOf race) with | none=>true | some f=>decide (61<f)

def prevOf(l:List Int)(k:Nat):Option Int:=if k=0 then none else l[k-1]?

theorem clashLoop_step(l:List Int)(k:Nat)(h:k<l.length)(free:Int) :
    clashLoop (prevOf l k) free (l.drop k)=if prevOf l k=some l[k] then clashLoop (prevOf l (k+1)) (free+1) (l.drop (k+1)) else if l[k]<free then none else clashLoop (prevOf l (k+1)) (l[k]+1) (l.drop (k+1)):=by
  have hp:prevOf l (k+1)=some l[k]:=by simp [prevOf,h]
  rw [hp,List.drop_eq_getElem_cons h]
  rfl

theorem placesOf_bd(race:List Int)(hr:∀ x∈race,0≤x∧x≤1000):(placesOf race).length≤race.length∧∀ i (h:i<(placesOf race).length),0≤(placesOf race)[i]∧(placesOf race)[i]≤1000:=by
  unfold placesOf
  refine ⟨by rw [List.length_mergeSort];exact List.length_filter_le _ _,fun i h => ?_⟩
  have hm:=List.getElem_mem h
  rw [List.mem_mergeSort,List.mem_filter] at hm
  exact hr _ hm.1

set_option maxHeartbeats 1000000 in
set_option maxRecDepth 100000 in
theorem clash_any(v:Value)(race:List Int)(w:World)(hv:Ints w v race)(hlen:race.length≤1000)(hr:∀ x∈race,0≤x∧x≤1000) :
    Calls Tryz.prog 126 #[v] w (Ret (.bool (clashR race)) w):=by
  have HC:=hid (clone_own v race w hv hlen)
  obtain ⟨hpl,hpb⟩:=placesOf_bd race hr
  have hfl:(race.filter fun x => !nz x).length≤race.length:=List.length_filter_le _ _
  have HR:=hid (show clashR race=match clashLoop none 1 (placesOf race) with | none=>true | some f=>decide (61<f) from rfl)
  have HPO:=hid (show placesOf race=(race.filter fun x => !nz x).mergeSort leB from rfl)
  generalize hpo:placesOf race=l at *
  have HPO2:=hid hpo
  clear hpo hv hr
  go_enter Tryz.func126,Tryz.ntmps126
  go_wp2_with (go_at_call 150;refine HC.out.mono ?_;rintro e w1 ⟨p1,n1,c1,rfl,hn1,ho1,hb1⟩;have HO1:=hid ho1;have HB1:=hid hb1;clear ho1 hb1 hn1)
  go_wp2_with (go_at_call 162;refine (delete_own _ _ _ _ _ _ pure154 HO1.out hlen).mono ?_;rintro e w2 ⟨p2,n2,c2,rfl,hn2,ho2,hg2,hv2⟩;have HN2:=hid hn2;have HO2:=hid ho2;have HG2:=hid hg2;have HV2:=hid hv2;clear ho2 hg2 hv2 hn2)
  go_wp2_with (go_at_call 85;refine (sort_own _ _ _ _ HO2.out (by omega)).mono ?_;rintro e w3 ⟨rfl,ho3,hg3⟩;have HO3:=hid ho3;have HG3:=hid hg3;clear ho3 hg3)
  have hl:l.length=n2:=by rw [HN2.out,HPO.out,List.length_mergeSort]
  have h3:=HO3.out
  rw [← HPO.out] at h3
  have hB3:Below w.heap.size w w3:=by
    have hk:=World.ownsRow.lt HO1.out
    refine (HB1.out.grown HG2.out HB1.out.size (fun k hk'=>(hk k hk').1)).grown HG3.out (Nat.le_trans HB1.out.size HG2.out.size) (fun k hk' => ?_)
    rw [HV2.out] at hk'
    exact (hk k hk').1
  obtain ⟨p,cap,hpe,hlc,hcm,hc⟩:=h3.ints.open
  injection hpe with e1 e2 e3
  subst e1 e3
  have hl1:l.length≤n2:=by omega
  have hl2:n2≤l.length:=by omega
  unfold maxLen at hcm
  clear hl e2 h3 HPO HO1 HO2 HO3 HG2 HG3 HV2 HB1 HN2 HC
  have HB:=hid hB3
  clear hB3
  go_wp2
  go_loop [4,14] (fun fr i=>∃ (k:Nat) (f:Int),k≤n2∧i = .int .i64 k∧fr = .int .i64 f∧1≤f∧f≤1001+k∧clashLoop none 1 l=clashLoop (prevOf l k) f (l.drop k)) (fun _ i=>n2-(intOf i).toNat)
  case atStart=>exact ⟨0,1,Nat.zero_le _,rfl,rfl,by omega,by omega,rfl⟩
  case round =>
    obtain ⟨k,f,hk,rfl,rfl,hf1,hf2,hcl⟩:=hrel
    have HCL:=hid hcl
    clear hcl
    by_cases hlt:k<n2
    · obtain ⟨b,o,rfl,hcell⟩:=hc k (by omega)
      obtain ⟨hx1,hx2⟩:=hpb k (by omega)
      have HST:=hid (clashLoop_step l k (by omega) f)
      have hklen:k<l.length:=by omega
      generalize hx:l[k]=x at *
      have HX:=hid hx
      clear hx
      have hprev:∃ y:Int,(0<k→w3.cell? ⟨b,o+(k-1),none⟩=some (.int .i64 y)∧prevOf l k=some y)∧(k=0→prevOf l k=none):=by
        by_cases h0:k=0
        · exact ⟨0,fun h=>by omega,fun _=>by simp [prevOf,h0]⟩
        · obtain ⟨b',o',hb',hcell'⟩:=hc (k-1) (by omega)
          cases hb'
          exact ⟨_,fun _=>⟨hcell',by simp [prevOf,h0]⟩,fun h=>absurd h h0⟩
      obtain ⟨y,hy,hy0⟩:=hprev
      clear hc hpb
      by_cases h0:k=0
      · have HP:=hid (hy0 h0)
        have hk0:((k:Int) == 0)=true:=by simp [h0]
        have hkk:=hid h0
        clear hy hy0 h0
        by_cases hxf:x<f
        · have HE:=hid (show clashR race=true by rw [HR.out,HCL.out,HST.out,HP.out,if_neg (by simp),if_pos hxf])
          clear HR HCL HST HP
          go_wp2
          go_ret
          exact ⟨ret_bool HE.out.symm,HB.out⟩
        · have HE:=hid (show clashLoop none 1 l=clashLoop (prevOf l (k+1)) (x+1) (l.drop (k+1)) by rw [HCL.out,HST.out,HP.out,if_neg (by simp),if_neg hxf])
          clear HCL HST HP
          go_wp2
          go_round
          case rel=>exact ⟨k+1,x+1,by omega,by go_num,rfl,by omega,by omega,HE.out⟩
          case measure=>simp [intOf];omega
      · obtain ⟨hcell',hp⟩:=hy (by omega)
        have HP:=hid hp
        have hk0:((k:Int) == 0)=false:=by simp [h0]
        have hk1:0<k:=by omega
        clear hy hy0 hp h0
        by_cases hxy:x=y
        · have hb1:(x != y)=false:=by simp [hxy]
          have HE:=hid (show clashLoop none 1 l=clashLoop (prevOf l (k+1)) (f+1) (l.drop (k+1)) by rw [HCL.out,HST.out,HP.out,if_pos (by rw [hxy])])
          have hxy':=hid hxy
          clear HCL HST HP hxy
          go_wp2
          go_round
          case rel=>exact ⟨k+1,f+1,by omega,by go_num,rfl,by omega,by omega,HE.out⟩
          case measure=>simp [intOf];omega
        · have hb1:(x != y)=true:=by simp [hxy]
          have hne:¬ (some y=some x):=fun h=>hxy (by injection h with h;exact h.symm)
          by_cases hxf:x<f
          · have HE:=hid (show clashR race=true by rw [HR.out,HCL.out,HST.out,HP.out,if_neg hne,if_pos hxf])
            clear HR HCL HST HP hxy hne
            go_wp2
            go_ret
            exact ⟨ret_bool HE.out.symm,HB.out⟩
          · have HE:=hid (show clashLoop none 1 l=clashLoop (prevOf l (k+1)) (x+1) (l.drop (k+1)) by rw [HCL.out,HST.out,HP.out,if_neg hne,if_neg hxf])
            clear HCL HST HP hxy hne
            go_wp2
            go_round
            case rel=>exact ⟨k+1,x+1,by omega,by go_num,rfl,by omega,by omega,HE.out⟩
            case measure=>simp [intOf];omega
    · have HE:=hid (show clashR race=decide (61<f) by rw [HR.out,HCL.out,List.drop_of_length_le (by omega)];cases prevOf l k <;> rfl)
      clear HR HCL hc hpb
      go_wp2
      go_ret
      exact ⟨ret_bool HE.out.symm,HB.out⟩
end KL
end Go.Proofs
end
section
namespace Go.Proofs
open KL
namespace KV
variable {P:Program} {C:Cx} {M:Mem} {w w':World}

abbrev rowI(l:List Int):AO := .row 3 l.length (l.map intP)

theorem ints_of{F:Nat→Prop}{l:List Int}{u:Value}(h:RepP F w (intsP l) u):Ints w u l:=by
  change RepP F w (.sl l.length (l.map intP)) u at h
  generalize hn:l.length=n at h
  generalize hc:l.map intP=cs at h
  cases h with
  | sl n cs p cap us h1 h2 h3 h4 h5 =>
    subst hn
    refine ⟨p,cap,rfl,h1,h2,fun i hi => ?_⟩
    have hl:i<cs.length:=by rw [← hc];simpa using hi
    obtain ⟨b,o,hp,_,hw⟩:=h3 i hl
    refine ⟨b,o,us i,hp,hw,?_⟩
    have:=h4 i hl
    subst hc
    rw [List.getElem_map] at this
    exact repV this

theorem arr_vals{F:Nat→Prop}{cur:Array Value}{l:List Int}(hle:l.length≤cur.size)(h:∀ j (hj:j<(l.map intP).length),RepP F w (l.map intP)[j] (cur.getD j undef)):cur.toList.take l.length=l.map (Value.int .i64):=by
  apply List.ext_getElem
  · simp;omega
  · intro i h1 h2
    have hi:i<l.length:=by simpa using h2
    have:=h i (by simpa using hi)
    rw [List.getElem_map] at this
    rw [List.getElem_map,List.getElem_take]
    cases hx:cur.getD i undef with
    | int k z =>
      rw [hx] at this
      cases this
      rw [Array.getD_eq_getD_getElem?,Array.getElem?_eq_getElem (by omega)] at hx
      simpa using hx
    | _=>rw [hx] at this;cases this
theorem vals_arr(F:Nat→Prop){cur:Array Value}{l:List Int}(h:cur.toList.take l.length=l.map (Value.int .i64)):(∀ j (hj:j<(l.map intP).length),RepP F w (l.map intP)[j] (cur.getD j undef))∧∀ j,j<(l.map intP).length→(cur.getD j undef).oneCell'=true:=by
  have key:∀ j (hj:j<l.length),cur.getD j undef = .int .i64 l[j]:=fun j hj=>by
    have h1:=congrArg (fun x=>x[j]?) h
    simp only [List.getElem?_take,hj,if_true,List.getElem?_map,List.getElem?_eq_getElem hj,Option.map_some,Array.getElem?_toList] at h1
    rw [Array.getD_eq_getD_getElem?,h1];rfl
  refine ⟨fun j hj => ?_,fun j hj => ?_⟩
  · have hj':j<l.length:=by simpa using hj
    rw [List.getElem_map,key j hj'];exact .v _
  · rw [key j (by simpa using hj)];rfl

theorem size3:∃ i,Tryz.prog.info? 3=some i∧i.size=1:=by
  have:=info3
  cases h:Tryz.prog.info? 3 with
  | none=>rw [h] at this;cases this
  | some i=>rw [h] at this;exact ⟨i,rfl,by simpa using this⟩

theorem own_in{id:Nat}{l:List Int}{u:Value}(hM:MemOK Tryz.prog C M w)(ho:M[id]? = some (some (rowI l)))(h:Rep C M w (.own id) u):OwnI w 0 u l:=by
  refine ⟨by simp,?_⟩
  cases h with
  | own _ _ h0 ha hr =>
    rcases hr _ _ _ ho with ⟨rfl,_,hn⟩ | ⟨b,rfl,hb⟩
    · exact .inl ⟨rfl,hn⟩
    · rcases hM.row _ _ _ _ ho with ⟨hn',_⟩ | ⟨b',arr,inf,hb',q1,q2,q3,q4,q5,q6,q7,q8⟩
      · rw [hb] at hn';cases hn'
      · rw [hb] at hb';cases hb'
        obtain ⟨i,hi,hs⟩:=size3
        rw [hi] at q2;cases q2
        exact .inr ⟨b,_,arr,rfl,Nat.zero_le _,q1,q5,q6,by rw [q3,hs],by rw [Nat.mul_one];exact arr_vals (by rw [q3,hs];omega) q7⟩

theorem row_after{l l':List Int}{u u':Value}{d:Bool}(hM:MemOK Tryz.prog C [some (rowI l)] w)(h:Rep C [some (rowI l)] w (.own 0) u)(hown:OwnI w' 0 u' l')(hg:w.grownBy w' u.ownBlock)
    (hb:u'.ownBlock=u.ownBlock) (hd:d=false→u'=u∧l'.length=l.length) :
    ∃ C',Fr C [some (rowI l)] w C' (if d then [some .dead,some (rowI l')] else [some (rowI l')]) w'∧MemOK Tryz.prog C' (if d then [some .dead,some (rowI l')] else [some (rowI l')]) w'∧Rep C' (if d then [some .dead,some (rowI l')] else [some (rowI l')]) w' (.own (if d then 1 else 0)) u':=by
  have at0:∀ (id:Nat) (o:AO),([some (rowI l)]:Mem)[id]? = some (some o)→id=0∧o=rowI l:=fun id o h=>by
    cases id with
    | zero=>simp at h;exact ⟨rfl,h.symm⟩
    | succ i=>simp at h
  have hblk:∀ b,C.ι 0=some b→u.ownBlock=some b∧∃ cap,u = .slice (some ⟨b,0,none⟩) l.length cap∧cap=C.κ 0:=fun b hb0=>by
    cases h with
    | own _ _ h0 ha hr =>
      rcases hr _ _ _ rfl with ⟨_,hn,_⟩ | ⟨b',rfl,hb'⟩
      · rw [hb0] at hn;cases hn
      · rw [hb0] at hb';cases hb';exact ⟨rfl,_,rfl,rfl⟩
  have hnb:C.ι 0=none→u = .slice none 0 0:=fun hn=>by
    cases h with
    | own _ _ h0 ha hr =>
      rcases hr _ _ _ rfl with ⟨hu,_,_⟩ | ⟨b',rfl,hb'⟩
      · exact hu
      · rw [hn] at hb';cases hb'
  have hkeep:∀ b,b<w.heap.size→(∀ (id:Nat) (o:AO),([some (rowI l)]:Mem)[id]? = some (some o)→o.live=true→C.ι id≠some b)→w'.heap[b]? = w.heap[b]? := fun b hb1 hn=>by
    refine hg.block b hb1 fun he => ?_
    cases hι:C.ι 0 with
    | none=>rw [hnb hι] at he;cases he
    | some b' =>
      rw [(hblk b' hι).1] at he;cases he
      exact hn 0 _ rfl rfl hι
  have hFz:∀ b,C.F b→w'.heap[b]? = w.heap[b]? := fun b hf=>hkeep b (hM.Fs b hf) fun id o hm hl he=>hM.nF id o b hm hl he hf
  cases d with
  | false =>
    obtain ⟨rfl,hlen⟩:=hd rfl
    simp only [Bool.false_eq_true,if_false]
    have at1:∀ (id:Nat) (o:AO),([some (rowI l')]:Mem)[id]? = some (some o)→id=0∧o=rowI l':=fun id o h=>by
      cases id with
      | zero=>simp at h;exact ⟨rfl,h.symm⟩
      | succ i=>simp at h
    have hblk':∀ b,C.ι 0=some b→∃ cur,w'.heap[b]? = some (.cells cur 3 (0,0))∧l'.length≤C.κ 0∧C.κ 0≤maxLen∧cur.size=C.κ 0∧cur.toList.take l'.length=l'.map (Value.int .i64):=fun b hι=>by
      obtain ⟨_,cap,hu,hc⟩:=hblk b hι
      rcases hown.2 with ⟨he,_⟩ | ⟨g,cap',cur,hv,_,hh,r1,r2,r3,r4⟩
      · rw [hu] at he;cases he
      · rw [hu] at hv
        obtain ⟨e1,_,e3⟩:=Value.slice.inj hv
        cases e1
        subst e3
        subst hc
        exact ⟨cur,hh,r1,r2,by omega,by simpa using r4⟩
    refine ⟨C,⟨hg.os,hg.tape,hg.output,hg.size,hkeep,fun id o hm => ?_,fun id o hm ty n cs hx => ?_,fun id o hm o' hx hl => ?_,fun id o b hm hl hb => ?_,fun _ h=>h,fun _ h => .inl h⟩,
      ⟨fun id ty n cs hm => ?_,fun id ty cs hm => ?_,fun id es cl hm => ?_,fun id id' o o' b h1 _ h2 _ _ _ => ?_,fun id o b hm hl hb => ?_,fun b hb=>Nat.lt_of_lt_of_le (hM.Fs b hb) hg.size,fun id o b hm hl hb => ?_⟩,?_⟩
    · obtain ⟨rfl,rfl⟩:=at0 id o hm
      exact ⟨⟨_,rfl⟩,rfl,rfl⟩
    · obtain ⟨rfl,rfl⟩:=at0 id o hm
      obtain ⟨_,he⟩:=at1 _ _ hx
      cases he
      exact ⟨l.map intP,by rw [hlen];rfl⟩
    · obtain ⟨rfl,rfl⟩:=at0 id o hm
      rfl
    · obtain ⟨rfl,rfl⟩:=at1 id o hm
      exact .inr ⟨0,_,rfl,rfl,hb⟩
    · obtain ⟨rfl,he⟩:=at1 id _ hm
      cases he
      cases hι:C.ι 0 with
      | none =>
        have:=hnb hι
        rcases hown.2 with ⟨_,h0⟩ | ⟨g,cap',cur,hv,_⟩
        · have:l'=[]:=List.eq_nil_of_length_eq_zero h0
          subst this
          exact .inl ⟨rfl,rfl,rfl⟩
        · rw [this] at hv;cases hv
      | some b =>
        obtain ⟨cur,q1,q2,q3,q4,q5⟩:=hblk' b hι
        obtain ⟨i,hi,hs⟩:=size3
        obtain ⟨r1,r2⟩:=vals_arr (w:=w') C.F q5
        exact .inr ⟨b,cur,i,rfl,q1,hi,by rw [hs,q4,Nat.mul_one],by simp [hs],q2,q3,r1,r2⟩
    · obtain ⟨_,he⟩:=at1 id _ hm;cases he
    · obtain ⟨_,he⟩:=at1 id _ hm;cases he
    · obtain ⟨rfl,_⟩:=at1 id _ h1
      obtain ⟨rfl,_⟩:=at1 id' _ h2
      rfl
    · obtain ⟨rfl,_⟩:=at1 id _ hm
      exact hM.nF 0 _ b rfl rfl hb
    · obtain ⟨rfl,_⟩:=at1 id _ hm
      exact Nat.lt_of_lt_of_le (hM.lt 0 _ b rfl rfl hb) hg.size
    · cases h with
      | own _ _ h0 ha hr =>
        refine .own 0 _ h0 ⟨_,rfl⟩ fun ty n cs hx => ?_
        obtain ⟨_,he⟩:=at1 0 _ hx
        cases he
        rcases hr _ _ _ rfl with ⟨q1,q2,q3⟩ | ⟨b,q1,q2⟩
        · exact .inl ⟨q1,q2,by omega⟩
        · exact .inr ⟨b,by rw [q1,hlen],q2⟩
  | true =>
    simp only [if_true]
    let cap':Nat:=match u' with | .slice _ _ c=>c | _=>0
    have at1:∀ (id:Nat) (o:AO),([some .dead,some (rowI l')]:Mem)[id]? = some (some o)→(id=0∧o = .dead)∨(id=1∧o=rowI l'):=fun id o h=>by
      match id,h with
      | 0,h=>simp at h;exact .inl ⟨rfl,h.symm⟩
      | 1,h=>simp at h;exact .inr ⟨rfl,h.symm⟩
      | i+2,h=>simp at h
    refine ⟨{ ι:=fun i=>if i=1 then u'.ownBlock else C.ι i,κ:=fun i=>if i=1 then cap' else C.κ i,F:=C.F },⟨hg.os,hg.tape,hg.output,hg.size,hkeep,fun id o hm => ?_,fun id o hm ty n cs hx => ?_,fun id o hm o' hx hl => ?_,fun id o b hm hl hbb => ?_,fun _ h=>h,fun _ h => .inl h⟩,
      ⟨fun id ty n cs hm => ?_,fun id ty cs hm => ?_,fun id es cl hm => ?_,fun id id' o o' b h1 l1 h2 l2 _ _ => ?_,fun id o b hm hl hbb => ?_,fun b hb=>Nat.lt_of_lt_of_le (hM.Fs b hb) hg.size,fun id o b hm hl hbb => ?_⟩,?_⟩
    · obtain ⟨rfl,rfl⟩:=at0 id o hm
      exact ⟨⟨_,rfl⟩,rfl,rfl⟩
    · obtain ⟨rfl,rfl⟩:=at0 id o hm
      rcases at1 _ _ hx with ⟨_,he⟩ | ⟨he,_⟩
      · cases he
      · cases he
    · obtain ⟨rfl,rfl⟩:=at0 id o hm
      rfl
    · rcases at1 id o hm with ⟨rfl,rfl⟩ | ⟨rfl,rfl⟩
      · cases hl
      · simp only [if_true] at hbb
        rw [hb] at hbb
        cases hι:C.ι 0 with
        | none=>rw [hnb hι] at hbb;cases hbb
        | some b' =>
          rw [(hblk b' hι).1] at hbb;cases hbb
          exact .inr ⟨0,_,rfl,rfl,hι⟩
    · rcases at1 id _ hm with ⟨_,he⟩ | ⟨rfl,he⟩
      · cases he
      · cases he
        simp only [if_true]
        rcases hown.2 with ⟨rfl,h0⟩ | ⟨g,cp,cur,rfl,_,hh,r1,r2,r3,r4⟩
        · have:l'=[]:=List.eq_nil_of_length_eq_zero h0
          subst this
          exact .inl ⟨rfl,rfl,rfl⟩
        · obtain ⟨i,hi,hs⟩:=size3
          obtain ⟨q1,q2⟩:=vals_arr (w:=w') C.F (by simpa using r4)
          exact .inr ⟨g,cur,i,rfl,hh,hi,by rw [hs];exact r3,by simp [hs],r1,r2,q1,q2⟩
    · rcases at1 id _ hm with ⟨_,he⟩ | ⟨_,he⟩ <;> cases he
    · rcases at1 id _ hm with ⟨_,he⟩ | ⟨_,he⟩ <;> cases he
    · rcases at1 id _ h1 with ⟨_,rfl⟩ | ⟨rfl,_⟩
      · cases l1
      · rcases at1 id' _ h2 with ⟨_,rfl⟩ | ⟨rfl,_⟩
        · cases l2
        · rfl
    · rcases at1 id _ hm with ⟨_,rfl⟩ | ⟨rfl,_⟩
      · cases hl
      · simp only [if_true] at hbb
        rw [hb] at hbb
        cases hι:C.ι 0 with
        | none=>rw [hnb hι] at hbb;cases hbb
        | some b' =>
          rw [(hblk b' hι).1] at hbb;cases hbb
          exact hM.nF 0 _ _ rfl rfl hι
    · rcases at1 id _ hm with ⟨_,rfl⟩ | ⟨rfl,_⟩
      · cases hl
      · simp only [if_true] at hbb
        rw [hb] at hbb
        cases hι:C.ι 0 with
        | none=>rw [hnb hι] at hbb;cases hbb
        | some b' =>
          rw [(hblk b' hι).1] at hbb;cases hbb
          exact Nat.lt_of_lt_of_le (hM.lt 0 _ _ rfl rfl hι) hg.size
    · have h0:u'.oneCell'=true:=by
        rcases hown.2 with ⟨rfl,_⟩ | ⟨g,cp,cur,rfl,_⟩ <;> rfl
      refine .own 1 _ h0 ⟨_,rfl⟩ fun ty n cs hx => ?_
      rcases at1 _ _ hx with ⟨he,_⟩ | ⟨_,he⟩
      · cases he
      · cases he
        simp only [if_true]
        rcases hown.2 with ⟨rfl,h9⟩ | ⟨g,cp,cur,rfl,_⟩
        · exact .inl ⟨rfl,rfl,h9⟩
        · exact .inr ⟨g,rfl,rfl⟩

theorem repL_one{x:AV}{us:List Value}(h:RepL C M w [x] us):∃ u,us=[u]∧Rep C M w x u:=by
  cases h with | cons _ u _ _ h hr=>cases hr;exact ⟨u,rfl,h⟩
theorem repL_two{x y:AV}{us:List Value}(h:RepL C M w [x,y] us):∃ u v,us=[u,v]∧Rep C M w x u∧Rep C M w y v:=by
  cases h with | cons _ u _ _ h hr=>obtain ⟨v,rfl,h2⟩:=repL_one hr;exact ⟨u,v,rfl,h,h2⟩
theorem rep_fn{f:Nat}{u:Value}(h:Rep C M w (.fn f [] []) u):u = .func (.func f) #[] #[]:=by
  cases h with
  | fn _ _ _ us vs h1 h2 h3 h4 =>
    have e1:us = #[]:=Array.eq_empty_of_size_eq_zero h1
    have e2:vs = #[]:=Array.eq_empty_of_size_eq_zero h2
    subst e1;subst e2;rfl

theorem cloneI_ok(l:List Int)(hl:l.length≤1000){base:Nat}:FV Tryz.prog 150 [.p (intsP l)] base (.own base) [(base,rowI l)]:=by
  refine ⟨.own 0,[some (rowI l)],fun C w us hus hM n => ?_,by simp [outP,keptOf,rowAt,objAt,outK,outX]⟩
  obtain ⟨u,rfl,hu⟩:=repL_one hus
  cases hu with
  | p _ _ hu =>
    refine (callsIn_wide.2 (clone_own u l w (ints_of hu) hl)).mono ?_
    rintro e w' ⟨p',n',cap',rfl,rfl,h1,h2⟩
    have at1:∀ (id:Nat) (o:AO),([some (rowI l)]:Mem)[id]? = some (some o)→id=0∧o=rowI l:=fun id o h=>by
      cases id with
      | zero=>simp at h;exact ⟨rfl,h.symm⟩
      | succ i=>simp at h
    have hno:∀ (id:Nat) (o:AO),¬ (([]:Mem)[id]? = some (some o)):=fun id o h=>by simp at h
    have hc:(p'=none∧l=[]∧cap'=0)∨∃ g cur,p'=some ⟨g,0,none⟩∧w.heap.size≤g∧w'.heap[g]? = some (.cells cur 3 (0,0))∧l.length≤cap'∧cap'≤maxLen∧cur.size=cap'*1∧cur.toList.take (l.length*1)=l.map (Value.int .i64):=by
      rcases h1.2 with ⟨he,h0⟩ | ⟨g,cp,cur,he,hg,hh,r1,r2,r3,r4⟩
      · obtain ⟨e1,_,e3⟩:=Value.slice.inj he
        exact .inl ⟨e1,List.eq_nil_of_length_eq_zero h0,e3⟩
      · obtain ⟨e1,_,e3⟩:=Value.slice.inj he
        subst e3
        exact .inr ⟨g,cur,e1,hg,hh,r1,r2,r3,r4⟩
    have new:∀ b,(Value.slice p' l.length cap').ownBlock=some b→w.heap.size≤b∧b<w'.heap.size:=fun b hb=>by
      rcases hc with ⟨rfl,_⟩ | ⟨g,cur,rfl,hg,hh,_⟩
      · cases hb
      · cases hb;exact ⟨hg,lt_of_block hh⟩
    refine ⟨_,rfl,{ ι:=fun _=>(Value.slice p' l.length cap').ownBlock,κ:=fun _=>cap',F:=C.F },⟨h2.os,h2.tape,h2.output,h2.size,fun b hb _=>h2.block b hb,fun id o h=>absurd h (hno id o),fun id o h=>absurd h (hno id o),fun id o h=>absurd h (hno id o),fun id o b hm hl hb => .inl (new b hb).1,fun _ h=>h,fun _ h => .inl h⟩,
      ⟨fun id ty n cs hm => ?_,fun id ty cs hm => ?_,fun id es cl hm => ?_,fun id id' o o' b q1 _ q2 _ _ _ => ?_,fun id o b hm hl hb hf => ?_,fun b hb=>Nat.lt_of_lt_of_le (hM.Fs b hb) h2.size,fun id o b hm hl hb=>(new b hb).2⟩,?_⟩
    · obtain ⟨rfl,he⟩:=at1 _ _ hm
      cases he
      rcases hc with ⟨rfl,rfl,_⟩ | ⟨g,cur,rfl,_,hh,r1,r2,r3,r4⟩
      · exact .inl ⟨rfl,rfl,rfl⟩
      · obtain ⟨i,hi,hs⟩:=size3
        obtain ⟨q1,q2⟩:=vals_arr (w:=w') C.F (by simpa using r4)
        exact .inr ⟨g,cur,i,rfl,hh,hi,by rw [hs];exact r3,by simp [hs],r1,r2,q1,q2⟩
    · obtain ⟨_,he⟩:=at1 _ _ hm;cases he
    · obtain ⟨_,he⟩:=at1 _ _ hm;cases he
    · obtain ⟨rfl,_⟩:=at1 _ _ q1
      obtain ⟨rfl,_⟩:=at1 _ _ q2
      rfl
    · have:=hM.Fs _ hf
      have:=(new b hb).1
      omega
    · refine .own 0 _ rfl ⟨_,rfl⟩ fun ty n cs hm => ?_
      obtain ⟨_,he⟩:=at1 _ _ hm
      cases he
      rcases hc with ⟨rfl,rfl,rfl⟩ | ⟨g,cur,rfl,_⟩
      · exact .inl ⟨rfl,rfl,rfl⟩
      · exact .inr ⟨g,rfl,rfl⟩
end KV
end Go.Proofs
end
section
namespace Go.Proofs
open Go.RowKit
namespace KL
section
variable {P:Program}

structure Later (w:World) where
  W:World
  h:Below w.heap.size w W

instance (w:World):Nonempty (Later w):=⟨⟨w,Below.refl _ _⟩⟩

theorem wp_region_qL{id:Nat}{Q:Exit→Act→World→Prop}{a:Act}{w:World}{l:List Oper}(hm:P.follows .mixedOrders=true)(hB:Region.lexB .any l.toArray=true)
    (h:wpQuiet P l.toArray (fun w'=>∃ z:Later w,w'=z.W) (fun a'=>∀ w',(∃ z:Later w,w'=z.W)→Q .normal a' w') l a):(Code.region id l.toArray true).wp P Q a w :=
  wp_region_quiet (C:=fun w'=>∃ z:Later w,w'=z.W) hm hB ⟨⟨_,(Below.refl _ w).drew⟩,rfl⟩ (by simpa using h)

theorem Later.call{f:FuncId}{args:Array Value}{w:World}{v:Value}(z:Later w)(h:Calls P f args z.W (Ret v z.W)) :
    Calls P f args z.W fun e w''=>e = .returned v∧∃ z':Later w,w''=z'.W :=
  h.mono fun _ _ ⟨he,hB⟩=>⟨he,⟨_,z.h.trans (hB.mono z.h.size)⟩,rfl⟩

theorem Later.same{f:FuncId}{args:Array Value}{w:World}{v:Value}(z:Later w)(h:Calls P f args z.W (fun e w'=>e = .returned v∧z.W=w')) :
    Calls P f args z.W fun e w''=>e = .returned v∧∃ z':Later w,w''=z'.W :=
  h.mono fun _ _ ⟨he,hB⟩=>⟨he,z,hB.symm⟩

theorem later_all{w:World}{p:World→Prop}(h:∀ w2,Below w.heap.size w w2→p w2):∀ w',(∃ z:Later w,w'=z.W)→p w':=by
  rintro _ ⟨z,rfl⟩
  exact h z.W z.h

theorem later_cell{w:World}{b o:Nat}{u:Value}(h:w.cell? ⟨b,o,none⟩=some u)(z:Later w):z.W.cell? ⟨b,o,none⟩=some u :=
  (z.h.cell (p:=⟨b,o,none⟩) (World.block_lt_of_cell? w _ h)).trans h
end
end KL
end Go.Proofs
end
section
namespace Go.Proofs
open Go.RowKit Go.Lib Go.Sort
namespace KL

def sortedB(cmp:Int→Int→Int)(l:List Int):Bool:=decide (∀ j,j<l.length-1→0≤cmp (l.getD (j+1) 0) (l.getD j 0))

theorem getD_at(l:List Int)(k:Nat)(h:k<l.length):l.getD k 0=l[k]:=by
  rw [List.getD_eq_getElem?_getD,List.getElem?_eq_getElem h];rfl

set_option maxHeartbeats 1000000 in
set_option maxRecDepth 100000 in
theorem isSorted_any(v:Value)(l:List Int)(g:FuncId)(cmp:Int→Int→Int)(w:World)(hv:Ints w v l)(hlen:l.length≤1000) 
   (eg:∀ args W,(callFunc g args).run Tryz.prog W = .ok (.enter g args) W) (hg:∀ W x y,Calls Tryz.prog g #[.int .i64 x,.int .i64 y] W fun e w'=>e = .returned (.int .i64 (cmp x y))∧W=w') :
    Calls Tryz.prog 152 #[v,.func (.func g) #[] #[]] w (Ret (.bool (sortedB cmp l)) w):=by
  obtain ⟨p,cap,rfl,hlc,hcm,hc⟩:=hv.open
  unfold maxLen at hcm
  have HG:=hid hg
  clear hg hv
  go_enter Tryz.func152,Tryz.ntmps152
  go_wp2
  go_loopw [5] (fun i wr=>∃ (k:Int),-1≤k∧k+1≤l.length∧i = .int .i64 k∧Below w.heap.size w wr∧∀ j:Nat,k≤j→j<l.length-1→0≤cmp (l.getD (j+1) 0) (l.getD j 0)) (fun i _=>(intOf i).toNat)
  case atStart=>exact ⟨(l.length:Int)-1,by omega,by omega,rfl,Below.refl _ _,fun j h1 h2=>by omega⟩
  case round =>
    obtain ⟨k,hk0,hk,rfl,hB,hs⟩:=hrel
    have HB:=hid hB
    have HS:=hid hs
    clear hB hs
    by_cases h0:0<k
    · obtain ⟨m,rfl⟩:∃ m:Nat,k=m:=⟨k.toNat,by omega⟩
      have hm:m<l.length:=by omega
      obtain ⟨b,o,rfl,c1⟩:=hc m hm
      obtain ⟨b',o',hb',c2⟩:=hc (m-1) (by omega)
      cases hb'
      have e1:=HB.out.cell (p:=⟨b,o+m,none⟩) (World.block_lt_of_cell? w _ c1)
      have e2:=HB.out.cell (p:=⟨b,o+(m-1),none⟩) (World.block_lt_of_cell? w _ c2)
      have hx:=hid (getD_at l m hm)
      have hy:=hid (getD_at l (m-1) (by omega))
      generalize hxx:l[m]=x at *
      generalize hyy:l[m-1]=y at *
      have d1:=later_cell (e1.trans c1)
      have d2:=later_cell (e2.trans c2)
      clear hc c1 c2 e1 e2 hxx hyy
      have i1:(m:Int)<l.length:=by omega
      go_wp2
      refine wp_region_qL (by kernel_rfl) (by kernel_rfl) ?_
      repeat (go_big_quiet_step (exact Later.same _ (HG.out _ _ _)))
      refine wpQuiet_nil (later_all fun w2 hb2 => ?_)
      have HB2:=hid (HB.out.trans (hb2.mono HB.out.size))
      clear hb2 HB d1 d2
      by_cases hneg:cmp x y<0
      · have HE:=hid (show sortedB cmp l=false by
          unfold sortedB
          rw [decide_eq_false_iff_not]
          intro h
          have:=h (m-1) (by omega)
          rw [show m-1+1=m by omega,hx.out,hy.out] at this
          omega)
        clear HS
        go_wp2
        go_ret
        exact ⟨ret_bool HE.out.symm,HB2.out⟩
      · go_wp2
        go_roundw
        case rel =>
          refine ⟨(m:Int)-1,by omega,by omega,by go_num,HB2.out,fun j h1 h2 => ?_⟩
          by_cases hj:j=m-1
          · subst hj
            rw [show m-1+1=m by omega,hx.out,hy.out]
            omega
          · exact HS.out j (by omega) h2
        case measure=>simp [intOf];omega
    · have HE:=hid (show sortedB cmp l=true by
        unfold sortedB
        rw [decide_eq_true_iff]
        intro j hj
        exact HS.out j (by omega) hj)
      clear HS hc
      go_wp2
      go_ret
      exact ⟨ret_bool HE.out.symm,HB.out⟩

def cmpDown(a b:Int):Int:=cmpI b a

theorem falls1_any(W:World)(x y:Int):Calls Tryz.prog 153 #[.int .i64 x,.int .i64 y] W fun e w'=>e = .returned (.int .i64 (cmpDown x y))∧W=w':=by
  go_enter Tryz.func153,Tryz.ntmps153
  go_wp2_with (go_at_call 100;refine (compare_any _ _ _).mono ?_;rintro e w' ⟨rfl,rfl⟩)
  go_ret
  exact ⟨rfl,rfl⟩

def fallsB(l:List Int):Bool:=sortedB cmpDown l

theorem falls_any(v:Value)(l:List Int)(w:World)(hv:Ints w v l)(hlen:l.length≤1000):Calls Tryz.prog 96 #[v] w (Ret (.bool (fallsB l)) w):=by
  have HI:=hid (isSorted_any v l 153 cmpDown w hv hlen (enters_of Tryz.func153 (by kernel_rfl) rfl) falls1_any)
  clear hv
  go_enter Tryz.func96,Tryz.ntmps96
  go_wp2_with (go_at_call 152;refine HI.out.mono ?_;rintro e w1 ⟨rfl,hb1⟩)
  go_ret
  exact ⟨rfl,hb1⟩
end KL
end Go.Proofs
end
section
namespace Go.Proofs
open Go.RowKit Go.Lib Go.Sort
namespace KL

structure Cup where
  sk:Int
  ra:Int
  be:Int
  pts:List Int
  done:List (List Int)

def CupAt(w:World)(v:Value)(c:Cup):Prop :=
  ∃ vp vd,v = .agg #[.int .i64 c.sk,.int .i64 c.ra,.int .i64 c.be,vp,vd]∧Ints w vp c.pts∧Rows w vd c.done

theorem CupAt.below{w w':World}{v:Value}{c:Cup}(h:CupAt w v c)(hb:Below w.heap.size w w'):CupAt w' v c:=by
  obtain ⟨vp,vd,rfl,h1,h2⟩:=h
  exact ⟨vp,vd,rfl,ints_below h1 hb,rows_below h2 hb⟩

structure Small (c:Cup):Prop where
  pts:c.pts.length≤1000
  done:c.done.length≤1000
  rows:∀ r∈c.done,r.length≤1000

def wiB(n lo hi:Int):Bool:=decide (lo≤n∧n≤hi)

theorem within_is{n lo hi:Int}{b:Bool}(h:wiB n lo hi=b)(w:World):Calls Tryz.prog 92 #[.int .i64 n,.int .i64 lo,.int .i64 hi] w fun e w'=>e = .returned (.bool b)∧w=w':=by
  subst h
  exact within_any n lo hi w

def checkP(c:Cup):Int :=
  if !wiB c.sk 1 12 || !wiB c.ra 1 20 || !wiB c.be 1 c.ra then 3
  else if !wiB c.pts.length 1 60 || decide (c.ra<c.done.length) || !c.done.all (fun r=>((r.length:Int) == c.sk)) then 2
  else if !c.pts.all (fun n=>wiB n 0 1000) || !c.done.all (fun r=>r.all fun p=>wiB p 0 60) then 3
  else if !fallsB c.pts then 4
  else if c.done.any clashR then 7 else 0

abbrev cupBox(c:Cup)(vp vd:Value):Obj := .cells #[.int .i64 c.sk,.int .i64 c.ra,.int .i64 c.be,vp,vd] 25

theorem box5{w W1:World}{c:Cup}{vp vd:Value}(hB:Below (w.alloc (cupBox c vp vd)).heap.size (w.alloc (cupBox c vp vd)) W1) :
    W1.cell? ⟨w.heap.size,0,none⟩=some (.int .i64 c.sk)∧W1.cell? ⟨w.heap.size,1,none⟩=some (.int .i64 c.ra)∧W1.cell? ⟨w.heap.size,2,none⟩=some (.int .i64 c.be) ∧
    W1.cell? ⟨w.heap.size,3,none⟩=some vp∧W1.cell? ⟨w.heap.size,4,none⟩=some vd:=by
  refine ⟨?_,?_,?_,?_,?_⟩ <;> rw [(bcell hB).1 _ _ (by simp)] <;> simp

set_option maxHeartbeats 400000 in
theorem pred118(w w1:World)(c:Cup)(vp vd:Value)(l:List (List Int))(hw1:Below (w.alloc (cupBox c vp vd)).heap.size (w.alloc (cupBox c vp vd)) w1) :
    PredOn Tryz.prog 121 #[.pointer (some ⟨w.heap.size,0,none⟩)] (fun w (l:List Int) v=>Ints w v l) (fun r=>((r.length:Int) == c.sk)) l w1:=by
  refine ⟨enters_of Tryz.func121 (by kernel_rfl) rfl,fun W x u hx hb henc => ?_⟩
  obtain ⟨k0,_,_,_,_⟩:=box5 (hw1.trans (hb.mono hw1.size))
  obtain ⟨p,cap,rfl,h1,h2,_⟩:=henc.open
  unfold maxLen at h2
  clear hb hw1 henc hx
  show Calls Tryz.prog 121 #[.slice p x.length cap,.pointer (some ⟨w.heap.size,0,none⟩)] W _
  go_enter Tryz.func121,Tryz.ntmps121
  go_wp2
  go_ret
  exact ⟨rfl,Below.refl _ _⟩

theorem predWithin{g:FuncId}{l:List Int}{w:World}{lo hi:Int}(eg:∀ args W,(callFunc g args).run Tryz.prog W = .ok (.enter g args) W)
    (h:∀ x W,Calls Tryz.prog g #[.int .i64 x] W fun e w'=>e = .returned (.bool (wiB x lo hi))∧W=w'):PredOn Tryz.prog g #[] IsInt (fun n=>wiB n lo hi) l w :=
  ⟨eg,fun W x u _ _ henc=>by
    subst henc
    exact (h x W).mono fun e w' ⟨he,hw⟩=>⟨he,by rw [← hw];exact Below.refl _ _⟩⟩

theorem f119_any(x:Int)(W:World):Calls Tryz.prog 122 #[.int .i64 x] W fun e w'=>e = .returned (.bool (wiB x 0 1000))∧W=w':=by
  have HI:=hid (@within_is x 0 1000 _ rfl W)
  go_enter Tryz.func122,Tryz.ntmps122
  go_wp2_with (go_at_call 92;refine HI.out.mono ?_;rintro e w' ⟨rfl,rfl⟩)
  go_ret
  exact ⟨rfl,rfl⟩
theorem f121_any(x:Int)(W:World):Calls Tryz.prog 124 #[.int .i64 x] W fun e w'=>e = .returned (.bool (wiB x 0 60))∧W=w':=by
  have HI:=hid (@within_is x 0 60 _ rfl W)
  go_enter Tryz.func124,Tryz.ntmps124
  go_wp2_with (go_at_call 92;refine HI.out.mono ?_;rintro e w' ⟨rfl,rfl⟩)
  go_ret
  exact ⟨rfl,rfl⟩

theorem pred120(w:World)(l:List (List Int)):PredOn Tryz.prog 123 #[] (fun w (l:List Int) v=>Ints w v l) (fun r=>r.all fun p=>wiB p 0 60) l w:=by
  refine ⟨enters_of Tryz.func123 (by kernel_rfl) rfl,fun W x u hx hb henc => ?_⟩
  have HI:=hid (all_ints u x 124 #[] _ W henc (predWithin (enters_of Tryz.func124 (by kernel_rfl) rfl) f121_any))
  clear hb henc hx
  show Calls Tryz.prog 123 #[u] W _
  go_enter Tryz.func123,Tryz.ntmps123
  go_wp2_with (go_at_call 93;refine HI.out.mono ?_;rintro e w1 ⟨rfl,hb1⟩)
  go_ret
  exact ⟨rfl,hb1⟩

theorem predClash(w:World)(l:List (List Int))(hl:∀ r∈l,r.length≤1000)(hr:∀ r∈l,∀ x∈r,0≤x∧x≤1000):PredOn Tryz.prog 126 #[] (fun w (l:List Int) v=>Ints w v l) clashR l w :=
  ⟨enters_of Tryz.func126 (by kernel_rfl) rfl,fun W x u hx _ henc=>clash_any u x W henc (hl x hx) (hr x hx)⟩

theorem rows_range{l:List (List Int)}(h:l.all (fun r=>r.all fun p=>wiB p 0 60)=true):∀ r∈l,∀ x∈r,0≤x∧x≤1000:=by
  intro r hr x hx
  have h1:=List.all_eq_true.1 h r hr
  have h2:=List.all_eq_true.1 h1 x hx
  unfold wiB at h2
  rw [decide_eq_true_iff] at h2
  omega

set_option maxHeartbeats 1000000 in
set_option maxRecDepth 100000 in
theorem check_1(c:Cup)(v:Value)(w:World)(hv:CupAt w v c)(hS:Small c)(f1:wiB c.sk 1 12=false):Calls Tryz.prog 50 #[v] w (Ret (.int .i64 (checkP c)) w):=by
  have HE:=hid (show checkP c=3 by unfold checkP;simp [f1])
  obtain ⟨vp,vd,rfl,hp,hd⟩:=hv
  have hB:=Below.refl (w.alloc (cupBox c vp vd)).heap.size (w.alloc (cupBox c vp vd))
  have hW:=(Below.refl w.heap.size w).alloc (Nat.le_refl _) (cupBox c vp vd)
  have hp1:=ints_below hp hW
  have hd1:=rows_below hd hW
  have hS1:=hS.pts
  have hS2:=hS.done
  have H118:=hid (fun W1 (hb:Below (w.alloc (cupBox c vp vd)).heap.size (w.alloc (cupBox c vp vd)) W1)=>all_rows vd c.done 121 _ _ W1 (rows_below hd1 hb) (pred118 w W1 c vp vd c.done hb))
  have H119:=hid (fun W1 (hb:Below (w.alloc (cupBox c vp vd)).heap.size (w.alloc (cupBox c vp vd)) W1)=>all_ints vp c.pts 122 #[] _ W1 (ints_below hp1 hb) (predWithin (enters_of Tryz.func122 (by kernel_rfl) rfl) f119_any))
  have H120:=hid (fun W1 (hb:Below (w.alloc (cupBox c vp vd)).heap.size (w.alloc (cupBox c vp vd)) W1)=>all_rows vd c.done 123 #[] _ W1 (rows_below hd1 hb) (pred120 W1 c.done))
  have H93:=hid (fun W1 (hb:Below (w.alloc (cupBox c vp vd)).heap.size (w.alloc (cupBox c vp vd)) W1)=>falls_any vp c.pts W1 (ints_below hp1 hb) hS.pts)
  obtain ⟨pp,cp,rfl,hp2,hp3,_⟩:=hp.open
  obtain ⟨pd,cd,rfl,hd2,hd3,_⟩:=hd.open
  unfold maxLen at hp3 hd3
  have hBW:=hid hW
  obtain ⟨k0,k1,k2,k3,k4⟩:=box5 hB
  clear hp hd hp1 hd1 hW hS
  have F1:=hid f1
  clear f1
  go_enter Tryz.func50,Tryz.ntmps50
  go_wp2_with (first | (go_at_call 92;first | ((with_reducible refine (within_is F1.out _).mono ?_);rintro e w' ⟨rfl,rfl⟩)))
  go_ret
  exact ⟨ret_int HE.out.symm,hBW.out.trans (hB.mono (by simp))⟩

set_option maxHeartbeats 1000000 in
set_option maxRecDepth 100000 in
theorem check_2(c:Cup)(v:Value)(w:World)(hv:CupAt w v c)(hS:Small c)(f1:wiB c.sk 1 12=true)(f2:wiB c.ra 1 20=false):Calls Tryz.prog 50 #[v] w (Ret (.int .i64 (checkP c)) w):=by
  have HE:=hid (show checkP c=3 by unfold checkP;simp [f1,f2])
  obtain ⟨vp,vd,rfl,hp,hd⟩:=hv
  have hB:=Below.refl (w.alloc (cupBox c vp vd)).heap.size (w.alloc (cupBox c vp vd))
  have hW:=(Below.refl w.heap.size w).alloc (Nat.le_refl _) (cupBox c vp vd)
  have hp1:=ints_below hp hW
  have hd1:=rows_below hd hW
  have hS1:=hS.pts
  have hS2:=hS.done
  have H118:=hid (fun W1 (hb:Below (w.alloc (cupBox c vp vd)).heap.size (w.alloc (cupBox c vp vd)) W1)=>all_rows vd c.done 121 _ _ W1 (rows_below hd1 hb) (pred118 w W1 c vp vd c.done hb))
  have H119:=hid (fun W1 (hb:Below (w.alloc (cupBox c vp vd)).heap.size (w.alloc (cupBox c vp vd)) W1)=>all_ints vp c.pts 122 #[] _ W1 (ints_below hp1 hb) (predWithin (enters_of Tryz.func122 (by kernel_rfl) rfl) f119_any))
  have H120:=hid (fun W1 (hb:Below (w.alloc (cupBox c vp vd)).heap.size (w.alloc (cupBox c vp vd)) W1)=>all_rows vd c.done 123 #[] _ W1 (rows_below hd1 hb) (pred120 W1 c.done))
  have H93:=hid (fun W1 (hb:Below (w.alloc (cupBox c vp vd)).heap.size (w.alloc (cupBox c vp vd)) W1)=>falls_any vp c.pts W1 (ints_below hp1 hb) hS.pts)
  obtain ⟨pp,cp,rfl,hp2,hp3,_⟩:=hp.open
  obtain ⟨pd,cd,rfl,hd2,hd3,_⟩:=hd.open
  unfold maxLen at hp3 hd3
  have hBW:=hid hW
  obtain ⟨k0,k1,k2,k3,k4⟩:=box5 hB
  clear hp hd hp1 hd1 hW hS
  have F1:=hid f1
  clear f1
  have F2:=hid f2
  clear f2
  go_enter Tryz.func50,Tryz.ntmps50
  go_wp2_with (first | (go_at_call 92;first | ((with_reducible refine (within_is F1.out _).mono ?_);rintro e w' ⟨rfl,rfl⟩) | ((with_reducible refine (within_is F2.out _).mono ?_);rintro e w' ⟨rfl,rfl⟩)))
  go_ret
  exact ⟨ret_int HE.out.symm,hBW.out.trans (hB.mono (by simp))⟩

set_option maxHeartbeats 1000000 in
set_option maxRecDepth 100000 in
theorem check_3(c:Cup)(v:Value)(w:World)(hv:CupAt w v c)(hS:Small c)(f1:wiB c.sk 1 12=true)(f2:wiB c.ra 1 20=true)(f3:wiB c.be 1 c.ra=false):Calls Tryz.prog 50 #[v] w (Ret (.int .i64 (checkP c)) w):=by
  have HE:=hid (show checkP c=3 by unfold checkP;simp [f1,f2,f3])
  obtain ⟨vp,vd,rfl,hp,hd⟩:=hv
  have hB:=Below.refl (w.alloc (cupBox c vp vd)).heap.size (w.alloc (cupBox c vp vd))
  have hW:=(Below.refl w.heap.size w).alloc (Nat.le_refl _) (cupBox c vp vd)
  have hp1:=ints_below hp hW
  have hd1:=rows_below hd hW
  have hS1:=hS.pts
  have hS2:=hS.done
  have H118:=hid (fun W1 (hb:Below (w.alloc (cupBox c vp vd)).heap.size (w.alloc (cupBox c vp vd)) W1)=>all_rows vd c.done 121 _ _ W1 (rows_below hd1 hb) (pred118 w W1 c vp vd c.done hb))
  have H119:=hid (fun W1 (hb:Below (w.alloc (cupBox c vp vd)).heap.size (w.alloc (cupBox c vp vd)) W1)=>all_ints vp c.pts 122 #[] _ W1 (ints_below hp1 hb) (predWithin (enters_of Tryz.func122 (by kernel_rfl) rfl) f119_any))
  have H120:=hid (fun W1 (hb:Below (w.alloc (cupBox c vp vd)).heap.size (w.alloc (cupBox c vp vd)) W1)=>all_rows vd c.done 123 #[] _ W1 (rows_below hd1 hb) (pred120 W1 c.done))
  have H93:=hid (fun W1 (hb:Below (w.alloc (cupBox c vp vd)).heap.size (w.alloc (cupBox c vp vd)) W1)=>falls_any vp c.pts W1 (ints_below hp1 hb) hS.pts)
  obtain ⟨pp,cp,rfl,hp2,hp3,_⟩:=hp.open
  obtain ⟨pd,cd,rfl,hd2,hd3,_⟩:=hd.open
  unfold maxLen at hp3 hd3
  have hBW:=hid hW
  obtain ⟨k0,k1,k2,k3,k4⟩:=box5 hB
  clear hp hd hp1 hd1 hW hS
  have F1:=hid f1
  clear f1
  have F2:=hid f2
  clear f2
  have F3:=hid f3
  clear f3
  go_enter Tryz.func50,Tryz.ntmps50
  go_wp2_with (first | (go_at_call 92;first | ((with_reducible refine (within_is F1.out _).mono ?_);rintro e w' ⟨rfl,rfl⟩) | ((with_reducible refine (within_is F2.out _).mono ?_);rintro e w' ⟨rfl,rfl⟩) | ((with_reducible refine (within_is F3.out _).mono ?_);rintro e w' ⟨rfl,rfl⟩)))
  go_ret
  exact ⟨ret_int HE.out.symm,hBW.out.trans (hB.mono (by simp))⟩

set_option maxHeartbeats 1000000 in
set_option maxRecDepth 100000 in
theorem check_4(c:Cup)(v:Value)(w:World)(hv:CupAt w v c)(hS:Small c)(f1:wiB c.sk 1 12=true)(f2:wiB c.ra 1 20=true)(f3:wiB c.be 1 c.ra=true)(f4:wiB c.pts.length 1 60=false):Calls Tryz.prog 50 #[v] w (Ret (.int .i64 (checkP c)) w):=by
  have HE:=hid (show checkP c=2 by unfold checkP;simp [f1,f2,f3,f4])
  obtain ⟨vp,vd,rfl,hp,hd⟩:=hv
  have hB:=Below.refl (w.alloc (cupBox c vp vd)).heap.size (w.alloc (cupBox c vp vd))
  have hW:=(Below.refl w.heap.size w).alloc (Nat.le_refl _) (cupBox c vp vd)
  have hp1:=ints_below hp hW
  have hd1:=rows_below hd hW
  have hS1:=hS.pts
  have hS2:=hS.done
  have H118:=hid (fun W1 (hb:Below (w.alloc (cupBox c vp vd)).heap.size (w.alloc (cupBox c vp vd)) W1)=>all_rows vd c.done 121 _ _ W1 (rows_below hd1 hb) (pred118 w W1 c vp vd c.done hb))
  have H119:=hid (fun W1 (hb:Below (w.alloc (cupBox c vp vd)).heap.size (w.alloc (cupBox c vp vd)) W1)=>all_ints vp c.pts 122 #[] _ W1 (ints_below hp1 hb) (predWithin (enters_of Tryz.func122 (by kernel_rfl) rfl) f119_any))
  have H120:=hid (fun W1 (hb:Below (w.alloc (cupBox c vp vd)).heap.size (w.alloc (cupBox c vp vd)) W1)=>all_rows vd c.done 123 #[] _ W1 (rows_below hd1 hb) (pred120 W1 c.done))
  have H93:=hid (fun W1 (hb:Below (w.alloc (cupBox c vp vd)).heap.size (w.alloc (cupBox c vp vd)) W1)=>falls_any vp c.pts W1 (ints_below hp1 hb) hS.pts)
  obtain ⟨pp,cp,rfl,hp2,hp3,_⟩:=hp.open
  obtain ⟨pd,cd,rfl,hd2,hd3,_⟩:=hd.open
  unfold maxLen at hp3 hd3
  have hBW:=hid hW
  obtain ⟨k0,k1,k2,k3,k4⟩:=box5 hB
  clear hp hd hp1 hd1 hW hS
  have F1:=hid f1
  clear f1
  have F2:=hid f2
  clear f2
  have F3:=hid f3
  clear f3
  have F4:=hid f4
  clear f4
  go_enter Tryz.func50,Tryz.ntmps50
  go_wp2_with (first | (go_at_call 92;first | ((with_reducible refine (within_is F1.out _).mono ?_);rintro e w' ⟨rfl,rfl⟩) | ((with_reducible refine (within_is F2.out _).mono ?_);rintro e w' ⟨rfl,rfl⟩) | ((with_reducible refine (within_is F3.out _).mono ?_);rintro e w' ⟨rfl,rfl⟩) | ((with_reducible refine (within_is F4.out _).mono ?_);rintro e w' ⟨rfl,rfl⟩)))
  go_ret
  exact ⟨ret_int HE.out.symm,hBW.out.trans (hB.mono (by simp))⟩

set_option maxHeartbeats 1000000 in
set_option maxRecDepth 100000 in
theorem check_5(c:Cup)(v:Value)(w:World)(hv:CupAt w v c)(hS:Small c)(f1:wiB c.sk 1 12=true)(f2:wiB c.ra 1 20=true)(f3:wiB c.be 1 c.ra=true)(f4:wiB c.pts.length 1 60=true)(f5:decide (c.ra<c.done.length)=true):Calls Tryz.prog 50 #[v] w (Ret (.int .i64 (checkP c)) w):=by
  have HE:=hid (show checkP c=2 by unfold checkP;simp [f1,f2,f3,f4,f5])
  obtain ⟨vp,vd,rfl,hp,hd⟩:=hv
  have hB:=Below.refl (w.alloc (cupBox c vp vd)).heap.size (w.alloc (cupBox c vp vd))
  have hW:=(Below.refl w.heap.size w).alloc (Nat.le_refl _) (cupBox c vp vd)
  have hp1:=ints_below hp hW
  have hd1:=rows_below hd hW
  have hS1:=hS.pts
  have hS2:=hS.done
  have H118:=hid (fun W1 (hb:Below (w.alloc (cupBox c vp vd)).heap.size (w.alloc (cupBox c vp vd)) W1)=>all_rows vd c.done 121 _ _ W1 (rows_below hd1 hb) (pred118 w W1 c vp vd c.done hb))
  have H119:=hid (fun W1 (hb:Below (w.alloc (cupBox c vp vd)).heap.size (w.alloc (cupBox c vp vd)) W1)=>all_ints vp c.pts 122 #[] _ W1 (ints_below hp1 hb) (predWithin (enters_of Tryz.func122 (by kernel_rfl) rfl) f119_any))
  have H120:=hid (fun W1 (hb:Below (w.alloc (cupBox c vp vd)).heap.size (w.alloc (cupBox c vp vd)) W1)=>all_rows vd c.done 123 #[] _ W1 (rows_below hd1 hb) (pred120 W1 c.done))
  have H93:=hid (fun W1 (hb:Below (w.alloc (cupBox c vp vd)).heap.size (w.alloc (cupBox c vp vd)) W1)=>falls_any vp c.pts W1 (ints_below hp1 hb) hS.pts)
  obtain ⟨pp,cp,rfl,hp2,hp3,_⟩:=hp.open
  obtain ⟨pd,cd,rfl,hd2,hd3,_⟩:=hd.open
  unfold maxLen at hp3 hd3
  have g5:c.ra<(c.done.length:Int):=by simpa using f5
  have hBW:=hid hW
  obtain ⟨k0,k1,k2,k3,k4⟩:=box5 hB
  clear hp hd hp1 hd1 hW hS
  have F1:=hid f1
  clear f1
  have F2:=hid f2
  clear f2
  have F3:=hid f3
  clear f3
  have F4:=hid f4
  clear f4
  clear f5
  go_enter Tryz.func50,Tryz.ntmps50
  go_wp2_with (first | (go_at_call 92;first | ((with_reducible refine (within_is F1.out _).mono ?_);rintro e w' ⟨rfl,rfl⟩) | ((with_reducible refine (within_is F2.out _).mono ?_);rintro e w' ⟨rfl,rfl⟩) | ((with_reducible refine (within_is F3.out _).mono ?_);rintro e w' ⟨rfl,rfl⟩) | ((with_reducible refine (within_is F4.out _).mono ?_);rintro e w' ⟨rfl,rfl⟩)))
  go_ret
  exact ⟨ret_int HE.out.symm,hBW.out.trans (hB.mono (by simp))⟩

set_option maxHeartbeats 1000000 in
set_option maxRecDepth 100000 in
theorem check_6(c:Cup)(v:Value)(w:World)(hv:CupAt w v c)(hS:Small c)(f1:wiB c.sk 1 12=true)(f2:wiB c.ra 1 20=true)(f3:wiB c.be 1 c.ra=true)(f4:wiB c.pts.length 1 60=true)(f5:decide (c.ra<c.done.length)=false)(f6:c.done.all (fun r=>((r.length:Int) == c.sk))=false):Calls Tryz.prog 50 #[v] w (Ret (.int .i64 (checkP c)) w):=by
  have HE:=hid (show checkP c=2 by unfold checkP;simp [f1,f2,f3,f4,f5,f6])
  obtain ⟨vp,vd,rfl,hp,hd⟩:=hv
  have hB:=Below.refl (w.alloc (cupBox c vp vd)).heap.size (w.alloc (cupBox c vp vd))
  have hW:=(Below.refl w.heap.size w).alloc (Nat.le_refl _) (cupBox c vp vd)
  have hp1:=ints_below hp hW
  have hd1:=rows_below hd hW
  have hS1:=hS.pts
  have hS2:=hS.done
  have H118:=hid (fun W1 (hb:Below (w.alloc (cupBox c vp vd)).heap.size (w.alloc (cupBox c vp vd)) W1)=>all_rows vd c.done 121 _ _ W1 (rows_below hd1 hb) (pred118 w W1 c vp vd c.done hb))
  have H119:=hid (fun W1 (hb:Below (w.alloc (cupBox c vp vd)).heap.size (w.alloc (cupBox c vp vd)) W1)=>all_ints vp c.pts 122 #[] _ W1 (ints_below hp1 hb) (predWithin (enters_of Tryz.func122 (by kernel_rfl) rfl) f119_any))
  have H120:=hid (fun W1 (hb:Below (w.alloc (cupBox c vp vd)).heap.size (w.alloc (cupBox c vp vd)) W1)=>all_rows vd c.done 123 #[] _ W1 (rows_below hd1 hb) (pred120 W1 c.done))
  have H93:=hid (fun W1 (hb:Below (w.alloc (cupBox c vp vd)).heap.size (w.alloc (cupBox c vp vd)) W1)=>falls_any vp c.pts W1 (ints_below hp1 hb) hS.pts)
  simp only [f6] at H118
  obtain ⟨pp,cp,rfl,hp2,hp3,_⟩:=hp.open
  obtain ⟨pd,cd,rfl,hd2,hd3,_⟩:=hd.open
  unfold maxLen at hp3 hd3
  have g5:¬ c.ra<(c.done.length:Int):=by simpa using f5
  have hBW:=hid hW
  obtain ⟨k0,k1,k2,k3,k4⟩:=box5 hB
  clear hp hd hp1 hd1 hW hS
  have F1:=hid f1
  clear f1
  have F2:=hid f2
  clear f2
  have F3:=hid f3
  clear f3
  have F4:=hid f4
  clear f4
  clear f5
  clear f6
  go_enter Tryz.func50,Tryz.ntmps50
  go_wp2_with (first | (go_at_call 92;first | ((with_reducible refine (within_is F1.out _).mono ?_);rintro e w' ⟨rfl,rfl⟩) | ((with_reducible refine (within_is F2.out _).mono ?_);rintro e w' ⟨rfl,rfl⟩) | ((with_reducible refine (within_is F3.out _).mono ?_);rintro e w' ⟨rfl,rfl⟩) | ((with_reducible refine (within_is F4.out _).mono ?_);rintro e w' ⟨rfl,rfl⟩)) | (go_at_call 120;first | ((with_reducible refine (H118.out _ hB).mono ?_);rintro e w1 ⟨rfl,hb1⟩;replace hB:=hB.trans (hb1.mono hB.size);clear hb1 k0 k1 k2 k3 k4;obtain ⟨k0,k1,k2,k3,k4⟩:=box5 hB) | ((with_reducible refine (H120.out _ hB).mono ?_);rintro e w1 ⟨rfl,hb1⟩;replace hB:=hB.trans (hb1.mono hB.size);clear hb1 k0 k1 k2 k3 k4;obtain ⟨k0,k1,k2,k3,k4⟩:=box5 hB)))
  go_ret
  exact ⟨ret_int HE.out.symm,hBW.out.trans (hB.mono (by simp))⟩

set_option maxHeartbeats 1000000 in
set_option maxRecDepth 100000 in
theorem check_7(c:Cup)(v:Value)(w:World)(hv:CupAt w v c)(hS:Small c)(f1:wiB c.sk 1 12=true)(f2:wiB c.ra 1 20=true)(f3:wiB c.be 1 c.ra=true)(f4:wiB c.pts.length 1 60=true)(f5:decide (c.ra<c.done.length)=false)(f6:c.done.all (fun r=>((r.length:Int) == c.sk))=true)(f7:c.pts.all (fun n=>wiB n 0 1000)=false):Calls Tryz.prog 50 #[v] w (Ret (.int .i64 (checkP c)) w):=by
  have HE:=hid (show checkP c=3 by unfold checkP;simp [f1,f2,f3,f4,f5,f6,f7])
  obtain ⟨vp,vd,rfl,hp,hd⟩:=hv
  have hB:=Below.refl (w.alloc (cupBox c vp vd)).heap.size (w.alloc (cupBox c vp vd))
  have hW:=(Below.refl w.heap.size w).alloc (Nat.le_refl _) (cupBox c vp vd)
  have hp1:=ints_below hp hW
  have hd1:=rows_below hd hW
  have hS1:=hS.pts
  have hS2:=hS.done
  have H118:=hid (fun W1 (hb:Below (w.alloc (cupBox c vp vd)).heap.size (w.alloc (cupBox c vp vd)) W1)=>all_rows vd c.done 121 _ _ W1 (rows_below hd1 hb) (pred118 w W1 c vp vd c.done hb))
  have H119:=hid (fun W1 (hb:Below (w.alloc (cupBox c vp vd)).heap.size (w.alloc (cupBox c vp vd)) W1)=>all_ints vp c.pts 122 #[] _ W1 (ints_below hp1 hb) (predWithin (enters_of Tryz.func122 (by kernel_rfl) rfl) f119_any))
  have H120:=hid (fun W1 (hb:Below (w.alloc (cupBox c vp vd)).heap.size (w.alloc (cupBox c vp vd)) W1)=>all_rows vd c.done 123 #[] _ W1 (rows_below hd1 hb) (pred120 W1 c.done))
  have H93:=hid (fun W1 (hb:Below (w.alloc (cupBox c vp vd)).heap.size (w.alloc (cupBox c vp vd)) W1)=>falls_any vp c.pts W1 (ints_below hp1 hb) hS.pts)
  simp only [f6] at H118
  simp only [f7] at H119
  obtain ⟨pp,cp,rfl,hp2,hp3,_⟩:=hp.open
  obtain ⟨pd,cd,rfl,hd2,hd3,_⟩:=hd.open
  unfold maxLen at hp3 hd3
  have g5:¬ c.ra<(c.done.length:Int):=by simpa using f5
  have hBW:=hid hW
  obtain ⟨k0,k1,k2,k3,k4⟩:=box5 hB
  clear hp hd hp1 hd1 hW hS
  have F1:=hid f1
  clear f1
  have F2:=hid f2
  clear f2
  have F3:=hid f3
  clear f3
  have F4:=hid f4
  clear f4
  clear f5
  clear f6
  clear f7
  go_enter Tryz.func50,Tryz.ntmps50
  go_wp2_with (first | (go_at_call 92;first | ((with_reducible refine (within_is F1.out _).mono ?_);rintro e w' ⟨rfl,rfl⟩) | ((with_reducible refine (within_is F2.out _).mono ?_);rintro e w' ⟨rfl,rfl⟩) | ((with_reducible refine (within_is F3.out _).mono ?_);rintro e w' ⟨rfl,rfl⟩) | ((with_reducible refine (within_is F4.out _).mono ?_);rintro e w' ⟨rfl,rfl⟩)) | (go_at_call 120;first | ((with_reducible refine (H118.out _ hB).mono ?_);rintro e w1 ⟨rfl,hb1⟩;replace hB:=hB.trans (hb1.mono hB.size);clear hb1 k0 k1 k2 k3 k4;obtain ⟨k0,k1,k2,k3,k4⟩:=box5 hB) | ((with_reducible refine (H120.out _ hB).mono ?_);rintro e w1 ⟨rfl,hb1⟩;replace hB:=hB.trans (hb1.mono hB.size);clear hb1 k0 k1 k2 k3 k4;obtain ⟨k0,k1,k2,k3,k4⟩:=box5 hB)) | (go_at_call 93;refine (H119.out _ hB).mono ?_;rintro e w1 ⟨rfl,hb1⟩;replace hB:=hB.trans (hb1.mono hB.size);clear hb1 k0 k1 k2 k3 k4;obtain ⟨k0,k1,k2,k3,k4⟩:=box5 hB))
  go_ret
  exact ⟨ret_int HE.out.symm,hBW.out.trans (hB.mono (by simp))⟩

set_option maxHeartbeats 1000000 in
set_option maxRecDepth 100000 in
theorem check_8(c:Cup)(v:Value)(w:World)(hv:CupAt w v c)(hS:Small c)(f1:wiB c.sk 1 12=true)(f2:wiB c.ra 1 20=true)(f3:wiB c.be 1 c.ra=true)(f4:wiB c.pts.length 1 60=true)(f5:decide (c.ra<c.done.length)=false)(f6:c.done.all (fun r=>((r.length:Int) == c.sk))=true)(f7:c.pts.all (fun n=>wiB n 0 1000)=true)(f8:c.done.all (fun r=>r.all fun p=>wiB p 0 60)=false):Calls Tryz.prog 50 #[v] w (Ret (.int .i64 (checkP c)) w):=by
  have HE:=hid (show checkP c=3 by unfold checkP;simp [f1,f2,f3,f4,f5,f6,f7,f8])
  obtain ⟨vp,vd,rfl,hp,hd⟩:=hv
  have hB:=Below.refl (w.alloc (cupBox c vp vd)).heap.size (w.alloc (cupBox c vp vd))
  have hW:=(Below.refl w.heap.size w).alloc (Nat.le_refl _) (cupBox c vp vd)
  have hp1:=ints_below hp hW
  have hd1:=rows_below hd hW
  have hS1:=hS.pts
  have hS2:=hS.done
  have H118:=hid (fun W1 (hb:Below (w.alloc (cupBox c vp vd)).heap.size (w.alloc (cupBox c vp vd)) W1)=>all_rows vd c.done 121 _ _ W1 (rows_below hd1 hb) (pred118 w W1 c vp vd c.done hb))
  have H119:=hid (fun W1 (hb:Below (w.alloc (cupBox c vp vd)).heap.size (w.alloc (cupBox c vp vd)) W1)=>all_ints vp c.pts 122 #[] _ W1 (ints_below hp1 hb) (predWithin (enters_of Tryz.func122 (by kernel_rfl) rfl) f119_any))
  have H120:=hid (fun W1 (hb:Below (w.alloc (cupBox c vp vd)).heap.size (w.alloc (cupBox c vp vd)) W1)=>all_rows vd c.done 123 #[] _ W1 (rows_below hd1 hb) (pred120 W1 c.done))
  have H93:=hid (fun W1 (hb:Below (w.alloc (cupBox c vp vd)).heap.size (w.alloc (cupBox c vp vd)) W1)=>falls_any vp c.pts W1 (ints_below hp1 hb) hS.pts)
  simp only [f6] at H118
  simp only [f7] at H119
  simp only [f8] at H120
  obtain ⟨pp,cp,rfl,hp2,hp3,_⟩:=hp.open
  obtain ⟨pd,cd,rfl,hd2,hd3,_⟩:=hd.open
  unfold maxLen at hp3 hd3
  have g5:¬ c.ra<(c.done.length:Int):=by simpa using f5
  have hBW:=hid hW
  obtain ⟨k0,k1,k2,k3,k4⟩:=box5 hB
  clear hp hd hp1 hd1 hW hS
  have F1:=hid f1
  clear f1
  have F2:=hid f2
  clear f2
  have F3:=hid f3
  clear f3
  have F4:=hid f4
  clear f4
  clear f5
  clear f6
  clear f7
  clear f8
  go_enter Tryz.func50,Tryz.ntmps50
  go_wp2_with (first | (go_at_call 92;first | ((with_reducible refine (within_is F1.out _).mono ?_);rintro e w' ⟨rfl,rfl⟩) | ((with_reducible refine (within_is F2.out _).mono ?_);rintro e w' ⟨rfl,rfl⟩) | ((with_reducible refine (within_is F3.out _).mono ?_);rintro e w' ⟨rfl,rfl⟩) | ((with_reducible refine (within_is F4.out _).mono ?_);rintro e w' ⟨rfl,rfl⟩)) | (go_at_call 120;first | ((with_reducible refine (H118.out _ hB).mono ?_);rintro e w1 ⟨rfl,hb1⟩;replace hB:=hB.trans (hb1.mono hB.size);clear hb1 k0 k1 k2 k3 k4;obtain ⟨k0,k1,k2,k3,k4⟩:=box5 hB) | ((with_reducible refine (H120.out _ hB).mono ?_);rintro e w1 ⟨rfl,hb1⟩;replace hB:=hB.trans (hb1.mono hB.size);clear hb1 k0 k1 k2 k3 k4;obtain ⟨k0,k1,k2,k3,k4⟩:=box5 hB)) | (go_at_call 93;refine (H119.out _ hB).mono ?_;rintro e w1 ⟨rfl,hb1⟩;replace hB:=hB.trans (hb1.mono hB.size);clear hb1 k0 k1 k2 k3 k4;obtain ⟨k0,k1,k2,k3,k4⟩:=box5 hB))
  go_ret
  exact ⟨ret_int HE.out.symm,hBW.out.trans (hB.mono (by simp))⟩

set_option maxHeartbeats 1000000 in
set_option maxRecDepth 100000 in
theorem check_9(c:Cup)(v:Value)(w:World)(hv:CupAt w v c)(hS:Small c)(f1:wiB c.sk 1 12=true)(f2:wiB c.ra 1 20=true)(f3:wiB c.be 1 c.ra=true)(f4:wiB c.pts.length 1 60=true)(f5:decide (c.ra<c.done.length)=false)(f6:c.done.all (fun r=>((r.length:Int) == c.sk))=true)(f7:c.pts.all (fun n=>wiB n 0 1000)=true)(f8:c.done.all (fun r=>r.all fun p=>wiB p 0 60)=true)(f9:fallsB c.pts=false):Calls Tryz.prog 50 #[v] w (Ret (.int .i64 (checkP c)) w):=by
  have HE:=hid (show checkP c=4 by unfold checkP;simp [f1,f2,f3,f4,f5,f6,f7,f8,f9])
  obtain ⟨vp,vd,rfl,hp,hd⟩:=hv
  have hB:=Below.refl (w.alloc (cupBox c vp vd)).heap.size (w.alloc (cupBox c vp vd))
  have hW:=(Below.refl w.heap.size w).alloc (Nat.le_refl _) (cupBox c vp vd)
  have hp1:=ints_below hp hW
  have hd1:=rows_below hd hW
  have hS1:=hS.pts
  have hS2:=hS.done
  have H118:=hid (fun W1 (hb:Below (w.alloc (cupBox c vp vd)).heap.size (w.alloc (cupBox c vp vd)) W1)=>all_rows vd c.done 121 _ _ W1 (rows_below hd1 hb) (pred118 w W1 c vp vd c.done hb))
  have H119:=hid (fun W1 (hb:Below (w.alloc (cupBox c vp vd)).heap.size (w.alloc (cupBox c vp vd)) W1)=>all_ints vp c.pts 122 #[] _ W1 (ints_below hp1 hb) (predWithin (enters_of Tryz.func122 (by kernel_rfl) rfl) f119_any))
  have H120:=hid (fun W1 (hb:Below (w.alloc (cupBox c vp vd)).heap.size (w.alloc (cupBox c vp vd)) W1)=>all_rows vd c.done 123 #[] _ W1 (rows_below hd1 hb) (pred120 W1 c.done))
  have H93:=hid (fun W1 (hb:Below (w.alloc (cupBox c vp vd)).heap.size (w.alloc (cupBox c vp vd)) W1)=>falls_any vp c.pts W1 (ints_below hp1 hb) hS.pts)
  have H122:=hid (fun W1 (hb:Below (w.alloc (cupBox c vp vd)).heap.size (w.alloc (cupBox c vp vd)) W1)=>containsFunc_rows vd c.done 126 #[] _ W1 (rows_below hd1 hb) (predClash W1 c.done hS.rows (rows_range f8)))
  simp only [f6] at H118
  simp only [f7] at H119
  simp only [f8] at H120
  rw [f9] at H93
  obtain ⟨pp,cp,rfl,hp2,hp3,_⟩:=hp.open
  obtain ⟨pd,cd,rfl,hd2,hd3,_⟩:=hd.open
  unfold maxLen at hp3 hd3
  have g5:¬ c.ra<(c.done.length:Int):=by simpa using f5
  have hBW:=hid hW
  obtain ⟨k0,k1,k2,k3,k4⟩:=box5 hB
  clear hp hd hp1 hd1 hW hS
  have F1:=hid f1
  clear f1
  have F2:=hid f2
  clear f2
  have F3:=hid f3
  clear f3
  have F4:=hid f4
  clear f4
  clear f5
  clear f6
  clear f7
  clear f8
  clear f9
  go_enter Tryz.func50,Tryz.ntmps50
  go_wp2_with (first | (go_at_call 92;first | ((with_reducible refine (within_is F1.out _).mono ?_);rintro e w' ⟨rfl,rfl⟩) | ((with_reducible refine (within_is F2.out _).mono ?_);rintro e w' ⟨rfl,rfl⟩) | ((with_reducible refine (within_is F3.out _).mono ?_);rintro e w' ⟨rfl,rfl⟩) | ((with_reducible refine (within_is F4.out _).mono ?_);rintro e w' ⟨rfl,rfl⟩)) | (go_at_call 120;first | ((with_reducible refine (H118.out _ hB).mono ?_);rintro e w1 ⟨rfl,hb1⟩;replace hB:=hB.trans (hb1.mono hB.size);clear hb1 k0 k1 k2 k3 k4;obtain ⟨k0,k1,k2,k3,k4⟩:=box5 hB) | ((with_reducible refine (H120.out _ hB).mono ?_);rintro e w1 ⟨rfl,hb1⟩;replace hB:=hB.trans (hb1.mono hB.size);clear hb1 k0 k1 k2 k3 k4;obtain ⟨k0,k1,k2,k3,k4⟩:=box5 hB)) | (go_at_call 93;refine (H119.out _ hB).mono ?_;rintro e w1 ⟨rfl,hb1⟩;replace hB:=hB.trans (hb1.mono hB.size);clear hb1 k0 k1 k2 k3 k4;obtain ⟨k0,k1,k2,k3,k4⟩:=box5 hB) | (go_at_call 96;refine (H93.out _ hB).mono ?_;rintro e w1 ⟨rfl,hb1⟩;replace hB:=hB.trans (hb1.mono hB.size);clear hb1 k0 k1 k2 k3 k4;obtain ⟨k0,k1,k2,k3,k4⟩:=box5 hB))
  go_ret
  exact ⟨ret_int HE.out.symm,hBW.out.trans (hB.mono (by simp))⟩

set_option maxHeartbeats 1000000 in
set_option maxRecDepth 100000 in
theorem check_10(c:Cup)(v:Value)(w:World)(hv:CupAt w v c)(hS:Small c)(f1:wiB c.sk 1 12=true)(f2:wiB c.ra 1 20=true)(f3:wiB c.be 1 c.ra=true)(f4:wiB c.pts.length 1 60=true)(f5:decide (c.ra<c.done.length)=false)(f6:c.done.all (fun r=>((r.length:Int) == c.sk))=true)(f7:c.pts.all (fun n=>wiB n 0 1000)=true)(f8:c.done.all (fun r=>r.all fun p=>wiB p 0 60)=true)(f9:fallsB c.pts=true)(f10:c.done.any clashR=true):Calls Tryz.prog 50 #[v] w (Ret (.int .i64 (checkP c)) w):=by
  have HE:=hid (show checkP c=7 by unfold checkP;simp [f1,f2,f3,f4,f5,f6,f7,f8,f9,f10])
  obtain ⟨vp,vd,rfl,hp,hd⟩:=hv
  have hB:=Below.refl (w.alloc (cupBox c vp vd)).heap.size (w.alloc (cupBox c vp vd))
  have hW:=(Below.refl w.heap.size w).alloc (Nat.le_refl _) (cupBox c vp vd)
  have hp1:=ints_below hp hW
  have hd1:=rows_below hd hW
  have hS1:=hS.pts
  have hS2:=hS.done
  have H118:=hid (fun W1 (hb:Below (w.alloc (cupBox c vp vd)).heap.size (w.alloc (cupBox c vp vd)) W1)=>all_rows vd c.done 121 _ _ W1 (rows_below hd1 hb) (pred118 w W1 c vp vd c.done hb))
  have H119:=hid (fun W1 (hb:Below (w.alloc (cupBox c vp vd)).heap.size (w.alloc (cupBox c vp vd)) W1)=>all_ints vp c.pts 122 #[] _ W1 (ints_below hp1 hb) (predWithin (enters_of Tryz.func122 (by kernel_rfl) rfl) f119_any))
  have H120:=hid (fun W1 (hb:Below (w.alloc (cupBox c vp vd)).heap.size (w.alloc (cupBox c vp vd)) W1)=>all_rows vd c.done 123 #[] _ W1 (rows_below hd1 hb) (pred120 W1 c.done))
  have H93:=hid (fun W1 (hb:Below (w.alloc (cupBox c vp vd)).heap.size (w.alloc (cupBox c vp vd)) W1)=>falls_any vp c.pts W1 (ints_below hp1 hb) hS.pts)
  have H122:=hid (fun W1 (hb:Below (w.alloc (cupBox c vp vd)).heap.size (w.alloc (cupBox c vp vd)) W1)=>containsFunc_rows vd c.done 126 #[] _ W1 (rows_below hd1 hb) (predClash W1 c.done hS.rows (rows_range f8)))
  simp only [f6] at H118
  simp only [f7] at H119
  simp only [f8] at H120
  rw [f9] at H93
  simp only [f10] at H122
  obtain ⟨pp,cp,rfl,hp2,hp3,_⟩:=hp.open
  obtain ⟨pd,cd,rfl,hd2,hd3,_⟩:=hd.open
  unfold maxLen at hp3 hd3
  have g5:¬ c.ra<(c.done.length:Int):=by simpa using f5
  have hBW:=hid hW
  obtain ⟨k0,k1,k2,k3,k4⟩:=box5 hB
  clear hp hd hp1 hd1 hW hS
  have F1:=hid f1
  clear f1
  have F2:=hid f2
  clear f2
  have F3:=hid f3
  clear f3
  have F4:=hid f4
  clear f4
  clear f5
  clear f6
  clear f7
  clear f8
  clear f9
  clear f10
  go_enter Tryz.func50,Tryz.ntmps50
  go_wp2_with (first | (go_at_call 92;first | ((with_reducible refine (within_is F1.out _).mono ?_);rintro e w' ⟨rfl,rfl⟩) | ((with_reducible refine (within_is F2.out _).mono ?_);rintro e w' ⟨rfl,rfl⟩) | ((with_reducible refine (within_is F3.out _).mono ?_);rintro e w' ⟨rfl,rfl⟩) | ((with_reducible refine (within_is F4.out _).mono ?_);rintro e w' ⟨rfl,rfl⟩)) | (go_at_call 120;first | ((with_reducible refine (H118.out _ hB).mono ?_);rintro e w1 ⟨rfl,hb1⟩;replace hB:=hB.trans (hb1.mono hB.size);clear hb1 k0 k1 k2 k3 k4;obtain ⟨k0,k1,k2,k3,k4⟩:=box5 hB) | ((with_reducible refine (H120.out _ hB).mono ?_);rintro e w1 ⟨rfl,hb1⟩;replace hB:=hB.trans (hb1.mono hB.size);clear hb1 k0 k1 k2 k3 k4;obtain ⟨k0,k1,k2,k3,k4⟩:=box5 hB)) | (go_at_call 93;refine (H119.out _ hB).mono ?_;rintro e w1 ⟨rfl,hb1⟩;replace hB:=hB.trans (hb1.mono hB.size);clear hb1 k0 k1 k2 k3 k4;obtain ⟨k0,k1,k2,k3,k4⟩:=box5 hB) | (go_at_call 96;refine (H93.out _ hB).mono ?_;rintro e w1 ⟨rfl,hb1⟩;replace hB:=hB.trans (hb1.mono hB.size);clear hb1 k0 k1 k2 k3 k4;obtain ⟨k0,k1,k2,k3,k4⟩:=box5 hB) | (go_at_call 125;refine (H122.out _ hB).mono ?_;rintro e w1 ⟨rfl,hb1⟩;replace hB:=hB.trans (hb1.mono hB.size);clear hb1 k0 k1 k2 k3 k4;obtain ⟨k0,k1,k2,k3,k4⟩:=box5 hB))
  go_ret
  exact ⟨ret_int HE.out.symm,hBW.out.trans (hB.mono (by simp))⟩

set_option maxHeartbeats 1000000 in
set_option maxRecDepth 100000 in
theorem check_11(c:Cup)(v:Value)(w:World)(hv:CupAt w v c)(hS:Small c)(f1:wiB c.sk 1 12=true)(f2:wiB c.ra 1 20=true)(f3:wiB c.be 1 c.ra=true)(f4:wiB c.pts.length 1 60=true)(f5:decide (c.ra<c.done.length)=false)(f6:c.done.all (fun r=>((r.length:Int) == c.sk))=true)(f7:c.pts.all (fun n=>wiB n 0 1000)=true)(f8:c.done.all (fun r=>r.all fun p=>wiB p 0 60)=true)(f9:fallsB c.pts=true)(f10:c.done.any clashR=false):Calls Tryz.prog 50 #[v] w (Ret (.int .i64 (checkP c)) w):=by
  have HE:=hid (show checkP c=0 by unfold checkP;simp [f1,f2,f3,f4,f5,f6,f7,f8,f9,f10])
  obtain ⟨vp,vd,rfl,hp,hd⟩:=hv
  have hB:=Below.refl (w.alloc (cupBox c vp vd)).heap.size (w.alloc (cupBox c vp vd))
  have hW:=(Below.refl w.heap.size w).alloc (Nat.le_refl _) (cupBox c vp vd)
  have hp1:=ints_below hp hW
  have hd1:=rows_below hd hW
  have hS1:=hS.pts
  have hS2:=hS.done
  have H118:=hid (fun W1 (hb:Below (w.alloc (cupBox c vp vd)).heap.size (w.alloc (cupBox c vp vd)) W1)=>all_rows vd c.done 121 _ _ W1 (rows_below hd1 hb) (pred118 w W1 c vp vd c.done hb))
  have H119:=hid (fun W1 (hb:Below (w.alloc (cupBox c vp vd)).heap.size (w.alloc (cupBox c vp vd)) W1)=>all_ints vp c.pts 122 #[] _ W1 (ints_below hp1 hb) (predWithin (enters_of Tryz.func122 (by kernel_rfl) rfl) f119_any))
  have H120:=hid (fun W1 (hb:Below (w.alloc (cupBox c vp vd)).heap.size (w.alloc (cupBox c vp vd)) W1)=>all_rows vd c.done 123 #[] _ W1 (rows_below hd1 hb) (pred120 W1 c.done))
  have H93:=hid (fun W1 (hb:Below (w.alloc (cupBox c vp vd)).heap.size (w.alloc (cupBox c vp vd)) W1)=>falls_any vp c.pts W1 (ints_below hp1 hb) hS.pts)
  have H122:=hid (fun W1 (hb:Below (w.alloc (cupBox c vp vd)).heap.size (w.alloc (cupBox c vp vd)) W1)=>containsFunc_rows vd c.done 126 #[] _ W1 (rows_below hd1 hb) (predClash W1 c.done hS.rows (rows_range f8)))
  simp only [f6] at H118
  simp only [f7] at H119
  simp only [f8] at H120
  rw [f9] at H93
  simp only [f10] at H122
  obtain ⟨pp,cp,rfl,hp2,hp3,_⟩:=hp.open
  obtain ⟨pd,cd,rfl,hd2,hd3,_⟩:=hd.open
  unfold maxLen at hp3 hd3
  have g5:¬ c.ra<(c.done.length:Int):=by simpa using f5
  have hBW:=hid hW
  obtain ⟨k0,k1,k2,k3,k4⟩:=box5 hB
  clear hp hd hp1 hd1 hW hS
  have F1:=hid f1
  clear f1
  have F2:=hid f2
  clear f2
  have F3:=hid f3
  clear f3
  have F4:=hid f4
  clear f4
  clear f5
  clear f6
  clear f7
  clear f8
  clear f9
  clear f10
  go_enter Tryz.func50,Tryz.ntmps50
  go_wp2_with (first | (go_at_call 92;first | ((with_reducible refine (within_is F1.out _).mono ?_);rintro e w' ⟨rfl,rfl⟩) | ((with_reducible refine (within_is F2.out _).mono ?_);rintro e w' ⟨rfl,rfl⟩) | ((with_reducible refine (within_is F3.out _).mono ?_);rintro e w' ⟨rfl,rfl⟩) | ((with_reducible refine (within_is F4.out _).mono ?_);rintro e w' ⟨rfl,rfl⟩)) | (go_at_call 120;first | ((with_reducible refine (H118.out _ hB).mono ?_);rintro e w1 ⟨rfl,hb1⟩;replace hB:=hB.trans (hb1.mono hB.size);clear hb1 k0 k1 k2 k3 k4;obtain ⟨k0,k1,k2,k3,k4⟩:=box5 hB) | ((with_reducible refine (H120.out _ hB).mono ?_);rintro e w1 ⟨rfl,hb1⟩;replace hB:=hB.trans (hb1.mono hB.size);clear hb1 k0 k1 k2 k3 k4;obtain ⟨k0,k1,k2,k3,k4⟩:=box5 hB)) | (go_at_call 93;refine (H119.out _ hB).mono ?_;rintro e w1 ⟨rfl,hb1⟩;replace hB:=hB.trans (hb1.mono hB.size);clear hb1 k0 k1 k2 k3 k4;obtain ⟨k0,k1,k2,k3,k4⟩:=box5 hB) | (go_at_call 96;refine (H93.out _ hB).mono ?_;rintro e w1 ⟨rfl,hb1⟩;replace hB:=hB.trans (hb1.mono hB.size);clear hb1 k0 k1 k2 k3 k4;obtain ⟨k0,k1,k2,k3,k4⟩:=box5 hB) | (go_at_call 125;refine (H122.out _ hB).mono ?_;rintro e w1 ⟨rfl,hb1⟩;replace hB:=hB.trans (hb1.mono hB.size);clear hb1 k0 k1 k2 k3 k4;obtain ⟨k0,k1,k2,k3,k4⟩:=box5 hB))
  go_ret
  exact ⟨ret_int HE.out.symm,hBW.out.trans (hB.mono (by simp))⟩

theorem check_any(c:Cup)(v:Value)(w:World)(hv:CupAt w v c)(hS:Small c):Calls Tryz.prog 50 #[v] w (Ret (.int .i64 (checkP c)) w):=by
  cases f1:wiB c.sk 1 12 with
  | false=>exact check_1 c v w hv hS f1
  | true =>
    cases f2:wiB c.ra 1 20 with
    | false=>exact check_2 c v w hv hS f1 f2
    | true =>
      cases f3:wiB c.be 1 c.ra with
      | false=>exact check_3 c v w hv hS f1 f2 f3
      | true =>
        cases f4:wiB c.pts.length 1 60 with
        | false=>exact check_4 c v w hv hS f1 f2 f3 f4
        | true =>
          cases f5:decide (c.ra<c.done.length) with
          | true=>exact check_5 c v w hv hS f1 f2 f3 f4 f5
          | false =>
            cases f6:c.done.all (fun r=>((r.length:Int) == c.sk)) with
            | false=>exact check_6 c v w hv hS f1 f2 f3 f4 f5 f6
            | true =>
              cases f7:c.pts.all (fun n=>wiB n 0 1000) with
              | false=>exact check_7 c v w hv hS f1 f2 f3 f4 f5 f6 f7
              | true =>
                cases f8:c.done.all (fun r=>r.all fun p=>wiB p 0 60) with
                | false=>exact check_8 c v w hv hS f1 f2 f3 f4 f5 f6 f7 f8
                | true =>
                  cases f9:fallsB c.pts with
                  | false=>exact check_9 c v w hv hS f1 f2 f3 f4 f5 f6 f7 f8 f9
                  | true =>
                    cases f10:c.done.any clashR with
                    | true=>exact check_10 c v w hv hS f1 f2 f3 f4 f5 f6 f7 f8 f9 f10
                    | false =>
                      exact check_11 c v w hv hS f1 f2 f3 f4 f5 f6 f7 f8 f9 f10
end KL
end Go.Proofs
end
section
namespace Go.Proofs
open Go.RowKit Go.Lib Go.Sort
namespace KL

structure Valid (c:Cup):Prop where
  sk1:1≤c.sk
  sk2:c.sk≤12
  ra1:1≤c.ra
  ra2:c.ra≤20
  be1:1≤c.be
  be2:c.be≤c.ra
  pt1:1≤c.pts.length
  pt2:c.pts.length≤60
  dn:(c.done.length:Int)≤c.ra
  len:∀ r∈c.done,(r.length:Int)=c.sk
  pts:∀ x∈c.pts,0≤x∧x≤1000
  rows:∀ r∈c.done,∀ x∈r,0≤x∧x≤60
  falls:fallsB c.pts=true
  clash:c.done.any clashR=false

theorem wiB_iff{n lo hi:Int}:wiB n lo hi=true↔lo≤n∧n≤hi:=by unfold wiB;rw [decide_eq_true_iff]

theorem valid_iff(c:Cup):checkP c=0↔Valid c:=by
  constructor
  · intro h
    unfold checkP at h
    split at h
    · cases h
    rename_i h1
    split at h
    · cases h
    rename_i h2
    split at h
    · cases h
    rename_i h3
    split at h
    · cases h
    rename_i h4
    split at h
    · cases h
    rename_i h5
    simp only [Bool.not_eq_true,Bool.or_eq_false_iff,Bool.not_eq_false',decide_eq_false_iff_not] at h1 h2 h3 h4 h5
    obtain ⟨⟨a1,a2⟩,a3⟩:=h1
    obtain ⟨⟨b1,b2⟩,b3⟩:=h2
    obtain ⟨c1,c2⟩:=h3
    rw [wiB_iff] at a1 a2 a3 b1
    rw [List.all_eq_true] at b3 c1 c2
    refine ⟨a1.1,a1.2,a2.1,a2.2,a3.1,a3.2,by omega,by omega,by omega,fun r hr=>by simpa using b3 r hr,fun x hx=>wiB_iff.1 (c1 x hx),fun r hr x hx => ?_,h4,h5⟩
    have:=c2 r hr
    rw [List.all_eq_true] at this
    exact wiB_iff.1 (this x hx)
  · intro v
    have a1:wiB c.sk 1 12=true:=wiB_iff.2 ⟨v.sk1,v.sk2⟩
    have a2:wiB c.ra 1 20=true:=wiB_iff.2 ⟨v.ra1,v.ra2⟩
    have a3:wiB c.be 1 c.ra=true:=wiB_iff.2 ⟨v.be1,v.be2⟩
    have a4:wiB c.pts.length 1 60=true:=wiB_iff.2 (by have:=v.pt1;have:=v.pt2;omega)
    have a5:decide (c.ra<c.done.length)=false:=by rw [decide_eq_false_iff_not];have:=v.dn;omega
    have a6:c.done.all (fun r=>((r.length:Int) == c.sk))=true:=by rw [List.all_eq_true];intro r hr;simpa using v.len r hr
    have a7:c.pts.all (fun n=>wiB n 0 1000)=true:=by rw [List.all_eq_true];intro r hr;exact wiB_iff.2 (v.pts r hr)
    have a8:c.done.all (fun r=>r.all fun p=>wiB p 0 60)=true:=by
      rw [List.all_eq_true];intro r hr;rw [List.all_eq_true];intro x hx;exact wiB_iff.2 (v.rows r hr x hx)
    unfold checkP
    rw [a1,a2,a3,a4,a5,a6,a7,a8,v.falls,v.clash]
    rfl

theorem Valid.small{c:Cup}(v:Valid c):Small c :=
  ⟨by have:=v.pt2;omega,by have:=v.dn;have:=v.ra2;omega,fun r hr=>by have:=v.len r hr;have:=v.sk2;omega⟩

theorem sumR_eq(l:List Int):∀ (a:Int) (n:Nat),0≤a→a≤1000*n→n+l.length≤1000000→(∀ x∈l,0≤x∧x≤1000)→l.foldl (fun a x=>wrap64 (a+x)) a=a+l.sum:=by
  induction l with
  | nil=>intro a n _ _ _ _;simp
  | cons x r ih =>
    intro a n h0 h1 h2 h3
    have hx:=h3 x (by simp)
    simp only [List.length_cons] at h2
    have hw:wrap64 (a+x)=a+x:=by unfold wrap64;omega
    rw [List.foldl_cons,hw,ih (a+x) (n+1) (by omega) (by omega) (by omega) (fun y hy=>h3 y (by simp [hy])),List.sum_cons]
    omega

theorem sumR_of(l:List Int)(hl:l.length≤1000)(h:∀ x∈l,0≤x∧x≤1000):sumR l=l.sum:=by
  unfold sumR
  rw [sumR_eq l 0 0 (by omega) (by omega) (by omega) h]
  omega

theorem sum_bd(l:List Int)(h:∀ x∈l,0≤x∧x≤1000):0≤l.sum∧l.sum≤1000*l.length:=by
  induction l with
  | nil=>simp
  | cons x r ih =>
    have hx:=h x (by simp)
    have:=ih (fun y hy=>h y (by simp [hy]))
    simp only [List.sum_cons,List.length_cons]
    omega

def worthM(pts:List Int)(place many:Nat):Int:=((pts.drop (place-1)).take many).sum

theorem worthM_bd(pts:List Int)(place many:Nat)(h:∀ x∈pts,0≤x∧x≤1000):0≤worthM pts place many∧worthM pts place many≤1000*many:=by
  have:=sum_bd ((pts.drop (place-1)).take many) (fun x hx=>h x (List.mem_of_mem_drop (List.mem_of_mem_take hx)))
  have hl:((pts.drop (place-1)).take many).length≤many:=List.length_take_le _ _
  unfold worthM
  omega

theorem worthM_some(pts:List Int)(place many:Nat)(last:Int)(hpl:pts.length≤1000)(hpr:∀ x∈pts,0≤x∧x≤1000)(hp:1≤place)(h:last=min (pts.length:Int) ((place:Int)-1+many))(h2:(place:Int)≤last)(l':List Int)
    (hl':l'=(pts.drop ((place:Int)-1).toNat).take (last.toNat-((place:Int)-1).toNat)):sumR l'=worthM pts place many:=by
  have e1:((place:Int)-1).toNat=place-1:=by omega
  rw [e1] at hl'
  have e2:l'=(pts.drop (place-1)).take many:=by
    rw [hl']
    by_cases hc:(place:Int)-1+many≤pts.length
    · rw [show last.toNat-(place-1)=many by omega]
    · rw [List.take_of_length_le (by simp;omega),List.take_of_length_le (by simp;omega)]
  rw [e2]
  refine sumR_of _ ?_ ?_
  · have:((pts.drop (place-1)).take many).length≤pts.length:=by simp;omega
    omega
  · intro x hx
    exact hpr x (List.mem_of_mem_drop (List.mem_of_mem_take hx))

theorem worthM_none(pts:List Int)(place many:Nat)(hp:1≤place)(h2:¬ (place:Int)≤min (pts.length:Int) ((place:Int)-1+many)):worthM pts place many=0:=by
  unfold worthM
  by_cases hm:many=0
  · simp [hm]
  · rw [List.drop_of_length_le (by omega)];simp

set_option maxHeartbeats 400000 in
theorem worth_any(sk ra be:Int)(vp vd:Value)(pts:List Int)(place many:Nat)(w:World)(hv:Ints w vp pts)(hpl:pts.length≤1000)(hpr:∀ x∈pts,0≤x∧x≤1000)(hp:1≤place)(hp2:place≤1000)(hm2:many≤1000) :
    Calls Tryz.prog 157 #[.agg #[.int .i64 sk,.int .i64 ra,.int .i64 be,vp,vd],.int .i64 place,.int .i64 many] w (Ret (.int .i64 (worthM pts place many)) w):=by
  have hbel:=(Below.refl w.heap.size w).alloc (Nat.le_refl _) (.cells #[.int .i64 sk,.int .i64 ra,.int .i64 be,vp,vd] 25)
  have HV:=hid (ints_below hv hbel)
  obtain ⟨p,cap,rfl,hlc,hcm,hc⟩:=hv.open
  unfold maxLen at hcm
  clear hc hv
  by_cases hlast:(place:Int)-1+many<(pts.length:Int)
  all_goals
    by_cases hle:(place:Int)≤min (pts.length:Int) ((place:Int)-1+many)
    · have HLE:=hid hle
      have HS:=hid (fun last h=>worthM_some pts place many last hpl hpr hp h)
      have hmin:min (pts.length:Int) ((place:Int)-1+many)=(if (place:Int)-1+many<(pts.length:Int) then (place:Int)-1+many else (pts.length:Int)):=by split <;> omega
      rw [hmin] at hle
      clear hmin hpr
      simp only [hlast,if_true,if_false] at hle
      go_enter Tryz.func157,Tryz.ntmps157
      go_wp2_with (first | ((with_reducible apply wpL_slice (hv:=HV.out) (hu:=Tryz.underlying22) (hs:=info3));rfl;rfl;rfl;omega;omega;omega;intro v' l' hl' hv';have HV':=hid hv';have HL:=hid hl';clear hv' hl') | (go_at_call 101;refine (sum_any _ _ _ HV'.out).mono ?_;rintro e w1 ⟨rfl,rfl⟩))
      go_ret
      exact ⟨ret_int (HS.out _ rfl HLE.out _ HL.out),hbel⟩
    · have HS':=hid (worthM_none pts place many hp hle)
      have hle':¬ (place:Int)≤(if (place:Int)-1+many<(pts.length:Int) then (place:Int)-1+many else (pts.length:Int)):=by split <;> omega
      clear hle hpr
      simp only [hlast,if_true,if_false] at hle'
      go_enter Tryz.func157,Tryz.ntmps157
      go_wp2
      go_ret
      exact ⟨ret_int HS'.out.symm,hbel⟩

def scoreM(pts race:List Int)(s:Nat):Int :=
  if race.getD s 0=0 then 0 else worthM pts (race.getD s 0).toNat (race.count (race.getD s 0)) / (race.count (race.getD s 0):Int)

theorem count_snoc(l:List Int)(p:Int)(k:Nat)(h:k<l.length):(l.take (k+1)).count p=(l.take k).count p+if l[k]=p then 1 else 0:=by
  rw [List.take_succ_eq_append_getElem h,List.count_append,List.count_singleton]
  simp

set_option maxHeartbeats 400000 in
theorem points_any(sk ra be:Int)(vp vd vr:Value)(pts race:List Int)(s:Nat)(w:World)(hv:Ints w vp pts)(hpl:pts.length≤1000)(hpr:∀ x∈pts,0≤x∧x≤1000)
    (hr:Ints w vr race) (hrl:race.length≤1000) (hrr:∀ x∈race,0≤x∧x≤60) (hs:s<race.length) :
    Calls Tryz.prog 105 #[.agg #[.int .i64 sk,.int .i64 ra,.int .i64 be,vp,vd],vr,.int .i64 s] w (Ret (.int .i64 (scoreM pts race s)) w):=by
  have hbel:=(Below.refl w.heap.size w).alloc (Nat.le_refl _) (.cells #[.int .i64 sk,.int .i64 ra,.int .i64 be,vp,vd] 25)
  have HV:=hid (ints_below hv hbel)
  have hr1:=ints_below hr hbel
  obtain ⟨p,cap,rfl,hlc,hcm,hc⟩:=hr.open
  obtain ⟨_,_,he,_,_,hc1⟩:=hr1.open
  injection he with e1 e2 e3
  subst e1 e3
  unfold maxLen at hcm
  obtain ⟨b,o,rfl,hs1⟩:=hc1 s hs
  have hx:=hrr race[s] (by simp)
  have hg:=getD_at race s hs
  have hcnt:race.count race[s]≤race.length:=List.count_le_length
  have hcnt1:1≤race.count race[s]:=List.count_pos_iff.2 (by simp)
  have hwd:scoreM pts race s=if race[s]=0 then 0 else worthM pts race[s].toNat (race.count race[s]) / (race.count race[s]:Int):=by
    unfold scoreM;rw [hg]
  generalize race[s]=x at *
  have HWD:=hid hwd
  have i1:(s:Int)<race.length:=by omega
  clear hg hwd hv hr hr1 hc e2 hrr
  by_cases hx0:x=0
  · have HE:=hid (show scoreM pts race s=0 by rw [HWD.out,if_pos hx0])
    have hb0:(x == 0)=true:=by simp [hx0]
    have hxx:=hid hx0
    clear hx0 hc1
    go_enter Tryz.func105,Tryz.ntmps105
    go_wp2
    go_ret
    exact ⟨ret_int HE.out.symm,hbel⟩
  · have HE:=hid (show scoreM pts race s=worthM pts x.toNat (race.count x) / (race.count x:Int) by rw [HWD.out,if_neg hx0])
    have hb0:(x == 0)=false:=by simp [hx0]
    obtain ⟨xn,rfl⟩:∃ n:Nat,x=n:=⟨x.toNat,by omega⟩
    have hwn:=worthM_bd pts xn (race.count (xn:Int)) hpr
    have HPR:=hid hpr
    clear hpr
    go_enter Tryz.func105,Tryz.ntmps105
    go_wp2
    go_loop [8,19] (fun m i=>∃ k:Nat,k≤race.length∧i = .int .i64 k∧m = .int .i64 ((race.take k).count (xn:Int):Nat)) (fun _ i=>race.length-(intOf i).toNat)
    case atStart=>exact ⟨0,Nat.zero_le _,rfl,by simp⟩
    case round =>
      obtain ⟨k,hk,rfl,rfl⟩:=hrel
      by_cases hlt:k<race.length
      · obtain ⟨b',o',hb',hcell⟩:=hc1 k hlt
        cases hb'
        have hle:(race.take k).count (xn:Int)≤(race.take k).length:=List.count_le_length
        have hle2:(race.take k).length≤k:=List.length_take_le _ _
        have HS:=hid (count_snoc race xn k hlt)
        generalize (race.take k).count (xn:Int)=cc at *
        generalize race[k]=y at *
        have i2:(k:Int)<race.length:=by omega
        clear hc1
        by_cases hy:y=xn
        · have hyb:(y == (xn:Int))=true:=by simp [hy]
          have hyy:=hid hy
          clear hy
          go_wp2
          go_round
          case rel=>exact ⟨k+1,by omega,by go_num,by rw [HS.out,if_pos hyy.out];go_num⟩
          case measure=>simp [intOf];omega
        · have hyb:(y == (xn:Int))=false:=by simp [hy]
          have hyy:=hid hy
          clear hy
          go_wp2
          go_round
          case rel=>exact ⟨k+1,by omega,by go_num,by rw [HS.out,if_neg hyy.out];go_num⟩
          case measure=>simp [intOf];omega
      · have ht:race.take k=race:=List.take_of_length_le (by omega)
        rw [ht] at *
        generalize hcc:race.count (xn:Int)=cc at *
        have HCC:=hid hcc
        obtain ⟨hwn1,hwn2⟩:=hwn
        clear hc1 ht hcc
        go_wp2_with (go_at_call 157;refine (worth_any sk ra be vp vd pts xn cc _ HV.out hpl HPR.out (by omega) (by omega) (by omega)).mono ?_;rintro e w1 ⟨rfl,hb1⟩)
        go_ret
        exact ⟨ret_int (by rw [HE.out];congr 1),hbel.trans (hb1.mono (by simp))⟩
end KL
end Go.Proofs
end
section
namespace Go.Proofs
namespace KL
section
variable {α:Type}

def mv(A:List α)(x:α)(j:Nat)(R:List α):List α:=A.take j++x::(A.drop j++R)

theorem mv_length(A:List α)(x:α)(j:Nat)(R:List α)(hj:j≤A.length):(mv A x j R).length=A.length+1+R.length:=by
  unfold mv;simp;omega

theorem mv_get(A:List α)(x:α)(j:Nat)(R:List α)(hj:j≤A.length)(t:Nat) :
    (mv A x j R)[t]? = if t<j then A[t]? else if t=j then some x else if t≤A.length then A[t-1]? else R[t-A.length-1]? := by
  unfold mv
  by_cases h1:t<j
  · rw [if_pos h1,List.getElem?_append_left (by simp;omega),List.getElem?_take_of_lt h1]
  · rw [if_neg h1,List.getElem?_append_right (by simp;omega)]
    have hl:(A.take j).length=j:=by simp;omega
    rw [hl]
    by_cases h2:t=j
    · rw [if_pos h2,show t-j=0 by omega];rfl
    · rw [if_neg h2,show t-j=(t-j-1)+1 by omega,List.getElem?_cons_succ]
      by_cases h3:t≤A.length
      · rw [if_pos h3,List.getElem?_append_left (by simp;omega),List.getElem?_drop]
        congr 1;omega
      · rw [if_neg h3,List.getElem?_append_right (by simp;omega)]
        congr 1
        simp;omega

theorem mv_swap(A:List α)(x:α)(j:Nat)(R:List α)(hj:j≤A.length)(h0:0<j)(y:α)(hy:A[j-1]? = some y) :
    ((mv A x j R).set j y).set (j-1) x=mv A x (j-1) R:=by
  have hl:=mv_length A x j R hj
  apply List.ext_getElem?
  intro t
  rw [List.getElem?_set,List.getElem?_set,mv_get A x (j-1) R (by omega),mv_get A x j R hj]
  simp only [List.length_set,hl]
  by_cases h1:j-1=t
  · subst h1
    rw [if_pos rfl,if_pos (by omega),if_neg (by omega),if_pos rfl]
  · rw [if_neg h1]
    by_cases h2:j=t
    · subst h2
      rw [if_pos rfl,if_pos (by omega),if_neg (by omega),if_neg (by omega),if_pos (by omega),hy]
    · rw [if_neg h2]
      by_cases h3:t<j
      · rw [if_pos h3,if_pos (by omega)]
      · rw [if_neg h3,if_neg (by omega:¬ t=j),if_neg (by omega:¬ t<j-1),if_neg (by omega:¬ t=j-1)]

def insPos(lt:α→α→Bool)(x:α)(A:List α):Nat:=(A.reverse.dropWhile (lt x)).length
def ins(lt:α→α→Bool)(A:List α)(x:α):List α:=A.take (insPos lt x A)++x::A.drop (insPos lt x A)
def isort(lt:α→α→Bool)(l:List α):List α:=l.foldl (ins lt) []

theorem dropWhile_all_append{p:α→Bool}:∀ (l r:List α),(∀ x∈l,p x=true)→(l++r).dropWhile p=r.dropWhile p
  | [],_,_=>rfl
  | x::l,r,h=>by
    rw [List.cons_append,List.dropWhile_cons,if_pos (h x (by simp))]
    exact dropWhile_all_append l r (fun y hy=>h y (by simp [hy]))

theorem insPos_eq(lt:α→α→Bool)(x:α)(A:List α)(j:Nat)(hj:j≤A.length)(h:∀ t (_:t<A.length),j≤t→lt x A[t]=true)
    (h2:j=0∨∃ y,A[j-1]? = some y∧lt x y=false):insPos lt x A=j:=by
  unfold insPos
  have e:A.reverse=(A.drop j).reverse++(A.take j).reverse:=by rw [← List.reverse_append,List.take_append_drop]
  rw [e,dropWhile_all_append]
  · rcases h2 with h0 | ⟨y,hy,hlt⟩
    · subst h0;simp
    · by_cases h0:j=0
      · subst h0;simp
      · have e2:A.take j=A.take (j-1)++[y]:=by
          rw [show j=(j-1)+1 by omega,List.take_add_one,Nat.add_sub_cancel,hy];rfl
        have hl:(A.take (j-1)).length=j-1:=by simp;omega
        rw [e2,List.reverse_append]
        show ((y::(A.take (j-1)).reverse).dropWhile (lt x)).length=j
        rw [List.dropWhile_cons,hlt]
        simp;omega
  · intro z hz
    rw [List.mem_reverse] at hz
    obtain ⟨t,ht,rfl⟩:=List.getElem_of_mem hz
    rw [List.getElem_drop]
    exact h (j+t) (by simp at ht;omega) (by omega)

theorem ins_length(lt:α→α→Bool)(A:List α)(x:α):(ins lt A x).length=A.length+1:=by
  unfold ins
  simp
  have:insPos lt x A≤A.length:=by
    unfold insPos
    have h2:((A.reverse).dropWhile (lt x)).length≤A.reverse.length:=(List.dropWhile_sublist _).length_le
    simpa using h2
  omega

theorem mv_end(A:List α)(x:α)(R:List α):mv A x A.length R=A++x::R:=by unfold mv;simp
theorem mv_ins(lt:α→α→Bool)(A:List α)(x:α)(R:List α):mv A x (insPos lt x A) R=ins lt A x++R:=by unfold mv ins;simp

theorem isort_length(lt:α→α→Bool)(l:List α):(isort lt l).length=l.length:=by
  unfold isort
  have:∀ (l A:List α),(l.foldl (ins lt) A).length=A.length+l.length:=by
    intro l
    induction l with
    | nil=>intro A;simp
    | cons x r ih=>intro A;rw [List.foldl_cons,ih,ins_length];simp;omega
  rw [this];simp

theorem isort_snoc(lt:α→α→Bool)(l:List α)(k:Nat)(h:k<l.length):isort lt (l.take (k+1))=ins lt (isort lt (l.take k)) l[k]:=by
  unfold isort
  rw [List.take_succ_eq_append_getElem h,List.foldl_append]
  rfl
end
end KL
end Go.Proofs
end
