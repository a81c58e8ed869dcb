/- Parts of the proof of JTopContested: laws of walks, contracts of functions, plain models. No condition. -/
import Derived.Test.YtaghkcgipomdjaaGreatProg
import Derived.ProofKit
import Derived.Carry
import Derived.Deep.Slices
import Derived.RangeFuncLeaves
import Derived.OwnWalkIn
import Derived.TacticsInMore
import Derived.Shelf.SlSortCmp.WholeK
import Derived.Shelf.SlicesG.Cmp
import Derived.Ground.SlsfProg
import Derived.Ground.SlgcProg
import Derived.Ground.NamesProg
import Derived.Shelf.SlSortCmp.NoneTotal
import Derived.Lib.OwnBridge
import Derived.Shelf.Slices.Clone
import Derived.Test.YtaghkcgipomdjaaGreatPJTopContestedA
set_option linter.unusedVariables false
set_option linter.unusedSimpArgs false
set_option maxRecDepth 100000
namespace Go.Proofs
namespace KV
open Tryz
section
variable {P:Program} {T:TT} {E:Env} {C C0:Cx} {M M0:Mem} {w w0:World}

def cost(o:Oper):Nat:=match o.op with
 | .alloc _ | .box _ _ | .buildSlice _ _ _ | .makeSlice _ _ _=>1
 | .call c=>match c.callee with
  | .builtin _=>1
  | _=>8
 | _=>0
def ido(ops:List Oper)(base k:Nat):Nat:=base+((ops.take k).map cost).sum

abbrev zF:=AV × Upd × Option (List Nat)
def aLu(q:zF):Ft:=⟨q.2.2,q.2.1.map (·.1)⟩

def bDc(o:Oper)(vs:List AV)(m:Mem)(id:Nat):Ask (Option (List Nat)):=fun s=>some (fpQ o vs m id s,s)
theorem bPz{o:Oper}{vs:List AV}{m:Mem}{id:Nat}{s s':AS}{b:Option (List Nat)}(h:bDc o vs m id s=some (b,s')):b=fpQ o vs m id s∧s'=s:=by
 unfold bDc at h
 cases h;exact ⟨rfl,rfl⟩
theorem aVt{o:Oper}{vs:List AV}{m:Mem}{id:Nat}:bS (bDc o vs m id):=fun s r s' e p hp=>by obtain ⟨_,rfl⟩:=bPz e;exact hp
def aVu(P:Program)(T:TT)(E:Env)(ops:List Oper):List Oper→Nat→St→Ask (List Ft × St)
 | [],_,st=>pure ([],st)
 | o::r,id,st=>do
  let go ← jB ops o st
  match go with
  | true=>do
   let vs ← lift (evs st o.op.operands.toList)
   let fp ← bDc o vs st.m id
   let q ← nT P T E o vs st.m id
   let y ← aVu P T E ops r (id+cost o) ⟨put st.t o.dst q.1,upds st.m q.2⟩
   pure (⟨fp,q.2.map (·.1)⟩::y.1,y.2)
  | false=>do
   let y ← aVu P T E ops r (id+cost o) ⟨put st.t o.dst (.tup []),st.m⟩
   pure (⟨some [],[]⟩::y.1,y.2)

def rX(ops:Array Oper):Nat→Nat→Nat→Bool
 | 0,_,_=>false
 | n+1,k,j=>match ops[j]? with
  | some oj=>(oj.after.any fun e=>Region.binds .any e && e.on == k) || oj.after.any fun e=>Region.binds .any e && rX ops n k e.on
  | none=>false
def aLv(ops:Array Oper)(k:Nat)(f:Ft):Nat→List Ft→Bool
 | _,[]=>true
 | j,g::r=>(aVy f g || rX ops 5 k j) && aLv ops k f (j+1) r
def aLw(ops:Array Oper):Nat→List Ft→Bool
 | _,[]=>true
 | k,f::r=>aLv ops k f (k+1) r && aLw ops (k+1) r

def next(o:Oper)(q:zF)(st:St):St:=⟨put st.t o.dst q.1,upds st.m q.2.1⟩

inductive aVv (P:Program) (T:TT) (E:Env) (ops:List Oper):Nat→List Oper→St→List zF→St→Prop
 | nil (id:Nat) (st:St):aVv P T E ops id [] st [] st
 | cons (id:Nat) (o:Oper) (l:List Oper) (st:St) (q:zF) (os:List zF) (fin:St) (h:sA P T E ops o id st q.1 q.2.1 q.2.2) (hr:aVv P T E ops (id+cost o) l (next o q st) os fin):aVv P T E ops id (o::l) st (q::os) fin

theorem pK{ops:List Oper}:∀ {l:List Oper} {id:Nat} {st:St},bS (aVu P T E ops l id st)
 | [],_,_=>aM _
 | _::_,_,_=>by
  unfold aVu;refine bC aDy fun _ => ?_
  split
  ·exact aJ fun _=>bC aVt fun _=>bC pY fun _=>bC pK fun _=>aM _
  ·exact bC pK fun _=>aM _

theorem xC{ops:List Oper}:∀ (l:List Oper) (id:Nat) {st fin:St} {fts:List Ft} {s s':AS},aVu P T E ops l id st s=some ((fts,fin),s')→aY s'→∃ os:List zF,fts=os.map aLu∧aVv P T E ops id l st os fin
 | [],id,st,fin,fts,s,s',h,g=>by
  obtain ⟨he,rfl⟩:=aK h;cases he;exact ⟨[],rfl,.nil _ _⟩
 | o::l,id,st,fin,fts,s,s',h,g=>by
  unfold aVu at h
  obtain ⟨go,s1,h1,k1⟩:=aD h;cases go with
  | true =>
   obtain ⟨vs,s2,h2,k2⟩:=aD k1;obtain ⟨e2,rfl⟩:=aH h2;obtain ⟨au,sa,ha,ka⟩:=aD k2;obtain ⟨rfl,rfl⟩:=bPz ha;obtain ⟨q,s3,h3,k3⟩:=aD ka;obtain ⟨y,s4,h4,k4⟩:=aD k3;obtain ⟨he,rfl⟩:=aK k4;cases he;obtain ⟨os,e5,hl⟩:=xC l _ (fts:=y.1) (fin:=y.2) h4 g;have g3:=pK.good h4 g;exact ⟨(q.1,q.2,fpQ o vs st.m id sa)::os,by rw [iB,e5];rfl,.cons _ _ _ _ (q.1,q.2,fpQ o vs st.m id sa) _ _ ⟨s,sa,.inr ⟨h1,vs,s3,e2,h3,g3,rfl⟩⟩ hl⟩
  | false =>
   obtain ⟨y,s4,h4,k4⟩:=aD k1;obtain ⟨he,rfl⟩:=aK k4;cases he;obtain ⟨os,e5,hl⟩:=xC l _ (fts:=y.1) (fin:=y.2) h4 g;exact ⟨(.tup [],[],some [])::os,by rw [iB,e5];rfl,.cons _ _ _ _ (.tup [],[],some []) _ _ ⟨s,s1,.inl ⟨h1,pK.good h4 g,rfl,rfl,rfl⟩⟩ hl⟩

def rY(P:Program)(T:TT)(E:Env)(ops:List Oper)(base:Nat)(out:Nat→zF)(fin:St):Nat→Array Bool→St→Prop
 | 0,listed,st=>Region.ready .any ops.toArray listed=[]∧st=fin
 | fuel+1,listed,st=>(Region.ready .any ops.toArray listed=[]→st=fin) ∧
  ∀ j∈Region.ready .any ops.toArray listed,∃ o,ops[j]? = some o∧sA P T E ops o (ido ops base j) st (out j).1 (out j).2.1 (out j).2.2∧rY P T E ops base out fin fuel (listed.setIfInBounds j true) (next o (out j) st)

def aDk(ops:List Oper)(listed:Array Bool):Prop:=∀ j oj,ops[j]? = some oj→listed.getD j false=true→∀ e∈oj.after,Region.binds .any e=true→listed.getD e.on false=true

theorem aJh{ops:List Oper}{listed:Array Bool}{i:Nat}(hc:aDk ops listed)(hi:listed.getD i false=false):∀ (n j:Nat),(∀ oj,ops[j]? = some oj→∀ e∈oj.after,Region.binds .any e=true→listed.getD e.on false=true)→rX ops.toArray n i j=false
 | 0,_,_=>rfl
 | n+1,j,h=>by
  unfold rX;cases hj:ops[j]? with
  | none=>simp [hj]
  | some oj =>
   simp only [List.getElem?_toArray,hj,Bool.or_eq_false_iff];refine ⟨?_,?_⟩
   ·rw [Bool.eq_false_iff]
    intro hw;obtain ⟨e,he,hb⟩:=Array.any_eq_true'.1 hw;simp only [Cc,beq_iff_eq] at hb
    have:=h oj hj e he hb.1;rw [hb.2,hi] at this
    cases this
   ·rw [Bool.eq_false_iff]
    intro hw;obtain ⟨e,he,hb⟩:=Array.any_eq_true'.1 hw;simp only [Cc] at hb
    have h1:=h oj hj e he hb.1;rw [aJh hc hi n e.on (fun o ho e' Ri Ar=>hc e.on o ho h1 e' Ri Ar)] at hb
    cases hb.2

theorem aDl{ops:List Oper}{listed:Array Bool}{j:Nat}(hc:aDk ops listed)(hj:∀ oj,ops[j]? = some oj→∀ e∈oj.after,Region.binds .any e=true→listed.getD e.on false=true):aDk ops (listed.setIfInBounds j true):=fun k ok hk hl e he hb=>by
 refine getD_set_true ?_
 by_cases h:j=k
 ·subst h;exact hj ok hk e he hb
 ·rw [getD_set_ne false h] at hl
  exact hc k ok hk hl e he hb

theorem rY.first{ops:List Oper}{base:Nat}{out:Nat→zF}{fin:St}{i:Nat}{oi:Oper}(hi:ops[i]? = some oi):∀ (fuel:Nat) (listed:Array Bool) (st:St),
  (∀ j oj,ops[j]? = some oj→j≠i→listed.getD j true=false→(∀ e∈oj.after,Region.binds .any e=true→e.on≠i)→oi.apart ops.toArray oj=true∧(aVy (aLu (out i)) (aLu (out j))=true∨rX ops.toArray 5 i j=true))→aDk ops listed →
  i∈Region.ready .any ops.toArray listed→sA P T E ops oi (ido ops base i) st (out i).1 (out i).2.1 (out i).2.2→rY P T E ops base out fin fuel (listed.setIfInBounds i true) (next oi (out i) st)→rY P T E ops base out fin (fuel+1) listed st:=by
 intro fuel
 induction fuel with
 | zero =>
  intro listed st _ _ hr hs H;refine ⟨fun h=>(by rw [h] at hr;cases hr),fun j hj => ?_⟩
  by_cases hji:j=i
  ·subst hji;exact ⟨oi,hi,hs,H⟩
  ·have:=ready_mono hj hji
   rw [H.1] at this
   cases this
 | succ fuel ih =>
  intro listed st hfree hcl hr hs H;refine ⟨fun h=>(by rw [h] at hr;cases hr),fun j hj => ?_⟩
  by_cases hji:j=i
  ·subst hji;exact ⟨oi,hi,hs,H⟩
  ·obtain ⟨oj,hoj,hsj,hH⟩:=H.2 j (ready_mono hj hji)
   obtain ⟨hjun,Nl,Nx,hall⟩:=mem_ready.1 hj;have:Nl=oj:=by
    rw [List.getElem?_toArray,hoj] at Nx
    cases Nx;rfl
   subst this;have hnot:∀ e∈Nl.after,Region.binds .any e=true→e.on≠i:=fun e he hb heq=>by
    have h1:=hall e he hb;have h0:=(mem_ready.1 hr).1;rw [heq] at h1
    rcases Nat.lt_or_ge i listed.size with h' | h'
    ·simp [h'] at h0 h1;rw [h0] at h1;cases h1
    ·simp [Array.getElem?_eq_none h'] at h1
   have Lo:listed.getD j true=false:=by
    rcases Nat.lt_or_ge j listed.size with h' | h'
    ·simpa [h'] using hjun
    ·exact hjun
   obtain ⟨hap,hok⟩:=hfree j Nl hoj hji Lo hnot;have hjall:∀ oj,ops[j]? = some oj→∀ e∈oj.after,Region.binds .any e=true→listed.getD e.on false=true:=fun o ho e he hb=>by
    rw [hoj] at ho;cases ho;exact hall e he hb
   have hiun:listed.getD i false=false:=by
    have h0:=(mem_ready.1 hr).1
    rcases Nat.lt_or_ge i listed.size with h' | h'
    ·simp [h'] at h0 ⊢;exact h0
    ·simp [Nat.not_lt.2 h']
   replace hok:=hok.resolve_right (by rw [aJh hcl hiun 5 j hjall];simp)
   obtain ⟨m1,m2,m3,m4⟩:=sA.move hap hok hs hsj;have hnx:next Nl (out j) (next oi (out i) st)=next oi (out i) (next Nl (out j) st):=by
    unfold next;simp only [m3,m4]
   refine ⟨Nl,hoj,m1,ih _ _ (fun k ok hk hki hun hno=>hfree k ok hk hki ?_ hno) (aDl hcl hjall) (ready_mono hr (Ne.symm hji)) m2 ?_⟩
   ·by_cases hjk:j=k
    ·subst hjk;exact Lo
    ·rw [getD_set_ne true hjk] at hun;exact hun
   ·rw [hnx,Array.setIfInBounds_comm _ _ (Ne.symm hji)] at hH
    exact hH

theorem bQa{ops:List Oper}{base k:Nat}{o:Oper}(h:ops[k]? = some o):ido ops base (k+1)=ido ops base k+cost o:=by
 unfold ido;rw [List.take_add_one,h];simp [Nat.add_assoc]

theorem rY.lex{ops:List Oper}{base:Nat}{out:Nat→zF}{fin:St}:∀ (l:List Oper) (k:Nat) (listed:Array Bool) (st:St) (os:List zF),(∀ j,l[j]? = ops[k+j]?)→(∀ j q,os[j]? = some q→out (k+j)=q)→(∀ j,j<k→listed.getD j true=true)→aDk ops listed →
  (∀ i j,k≤i→i<j→(ops[j]?).isSome→aVy (aLu (out i)) (aLu (out j))=true∨rX ops.toArray 5 i j=true) →
  Region.lexFrom .any ops.toArray l.length k listed=true→aVv P T E ops (ido ops base k) l st os fin→rY P T E ops base out fin l.length listed st
 | [],k,listed,st,os,_,_,_,_,_,hB,h=>by
  cases h;exact ⟨by simpa [Region.lexFrom] using hB,rfl⟩
 | o::l,k,listed,st,os,hl,ho,hk,hcl,hA,hB,h=>by
  cases h with
  | cons _ _ _ _ q os _ hs hr =>
   have h0:ops[k]? = some o:=by simpa using (hl 0).symm
   have hq:out k=q:=ho 0 q rfl;simp only [nM,Region.lexFrom,Cc] at hB
   obtain ⟨⟨hrd,hf⟩,Rj⟩:=hB;have Tu:ops.toArray[k]? = some o:=by rw [List.getElem?_toArray];exact h0
   have Ny:k∈Region.ready .any ops.toArray listed:=by simpa using hrd
   have hkall:∀ oj,ops[k]? = some oj→∀ e∈oj.after,Region.binds .any e=true→listed.getD e.on false=true:=fun o' Dd e he hb=>by
    obtain ⟨_,o2,J2,hall⟩:=mem_ready.1 Ny;rw [Tu] at J2;cases J2
    rw [h0] at Dd;cases Dd
    exact hall e he hb
   refine rY.first h0 l.length listed st (fun j oj hj hjk hun hno => ?_) hcl Ny (by rw [hq];exact hs) ?_
   ·refine ⟨Region.free_spec Tu hf j oj (by rw [List.getElem?_toArray];exact hj) hjk hun hno,?_⟩
    have hlt:k<j:=by
     rcases Nat.lt_trichotomy k j with h1 | h1 | h1
     ·exact h1
     ·exact absurd h1.symm hjk
     ·rw [hk j h1] at hun;cases hun
    exact hA k j (dG _) hlt (by rw [hj];rfl)
   ·rw [hq]
    refine rY.lex l (k+1) _ _ os (fun j=>by have:=hl (j+1);simpa [Nat.add_assoc,Nat.add_comm 1 j] using this) (fun j q' hj=>by have:=ho (j+1) q' (by simpa using hj);rw [← this];congr 1;omega) (fun j hj => ?_) (aDl hcl hkall)
     (fun i j hi=>hA i j (by omega)) Rj (by rw [bQa h0];exact hr)
    by_cases e:k=j
    ·subst e
     rcases Nat.lt_or_ge k listed.size with h' | h'
     ·simp [h']
     ·simp [Nat.not_lt.2 h']
    ·rw [getD_set_ne true e];exact hk j (by omega)

theorem aBa{ops:Array Oper}{k:Nat}{f:Ft}:∀ (l:List Ft) (j:Nat),aLv ops k f j l=true→∀ i g,l[i]? = some g→aVy f g=true∨rX ops 5 k (j+i)=true
 | [],_,_,i,g,h=>by simp at h
 | x::l,j,h,i,g,hi=>by
  unfold aLv at h
  rw [Cc,aMq] at h
  cases i with
  | zero=>simp at hi;subst hi;exact h.1
  | succ i =>
   have:=aBa l (j+1) h.2 i g (by simpa using hi)
   rwa [show j+1+i=j+(i+1) by omega] at this
theorem rZ{ops:Array Oper}:∀ (l:List Ft) (k:Nat),aLw ops k l=true→∀ i j f g,i<j→l[i]? = some f→l[j]? = some g→aVy f g=true∨rX ops 5 (k+i) (k+j)=true
 | [],_,_,i,j,f,g,_,h,_=>by simp at h
 | x::l,k,h,i,j,f,g,hij,hi,hj=>by
  unfold aLw at h
  rw [Cc] at h
  cases j with
  | zero=>omega
  | succ j =>
   cases i with
   | zero =>
    simp at hi;subst hi
    have:=aBa l (k+1) h.1 j g (by simpa using hj)
    rwa [show k+1+j=k+(j+1) by omega] at this
   | succ i =>
    have:=rZ l (k+1) h.2 i j f g (by omega) (by simpa using hi) (by simpa using hj)
    rwa [show k+1+i=k+(i+1) by omega,show k+1+j=k+(j+1) by omega] at this

theorem rY.sound(hT:∀ t i,T t=some i→cB P t=some i)(hE:nA P E){ops:List Oper}{base:Nat}{out:Nat→zF}{fin:St}{ro:Option Nat}{n:Nat}{Q:Exit→Act→World→Prop}(hQ:∀ a' w',Sim P C0 M0 w0 fin a' w'→Q .normal a' w') :
  ∀ (fuel:Nat) (listed:Array Bool) (st:St) (a:Act) (w:World),rY P T E ops base out fin fuel listed st→Sim P C0 M0 w0 st a w→wpAnyIn (Fen ro) n P .any ops.toArray Q fuel listed a w
 | 0,listed,st,a,w,h,hs=>⟨h.1,hQ _ _ (h.2 ▸ hs)⟩
 | fuel+1,listed,st,a,w,h,hs=>by
  refine ⟨fun h0=>hQ _ _ (h.1 h0 ▸ hs),fun j hj => ?_⟩
  obtain ⟨o,ho,hst,hr⟩:=h.2 j hj;have:=hst.op hT hE C0 M0 w0 a w hs ro n (wpAnyIn (Fen ro) n P .any ops.toArray Q fuel (listed.setIfInBounds j true)) Q (fun a' w' B3=>rY.sound hT hE hQ fuel _ _ _ _ hr B3)
  unfold wpOpIn;simp only [List.getElem?_toArray,ho];exact this
end
section
variable {P:Program} {T:TT} {E:Env} {C C0:Cx} {M M0:Mem} {w w0:World}

mutual
def fzA(id n:Nat)(cs:List PV):AV→AV
 | .own i=>match Nat.beq i id with
  | true => .p (.sl n cs)
  | false => .own i
 | .arr i off k=>match Nat.beq i id with
  | true => .p (.sl k ((cs.drop off).take (k*(cs.length / n))))
  | false => .arr i off k
 | .ptr i off=>match Nat.beq i id with
  | true => .rp cs off
  | false => .ptr i off
 | .agg l=>kD (fzL id n cs l)
 | .tup l => .tup (fzL id n cs l)
 | .fn f a b => .fn f (fzL id n cs a) (fzL id n cs b)
 | .p x => .p x
 | .rp cs o => .rp cs o
 | .yld l => .yld l
 | .kb b => .kb b
 | .mp i => .mp i
 | .pa i q => .pa i q
 | .any => .any
def fzL(id n:Nat)(cs:List PV):List AV→List AV
 | []=>[]
 | x::r=>fzA id n cs x::fzL id n cs r
end

theorem xA(id n:Nat)(cs:List PV):∀ l:List AV,(fzL id n cs l).length=l.length
 | []=>by simp [fzL]
 | x::r=>by simp [fzL,xA id n cs r]

section
variable {id ty n:Nat} {cs:List PV} (hM:aO P C M w) (ho:M[id]? = some (some (.row ty n cs)))
include hM ho
mutual
theorem aJg:∀ {x:AV} {u:Value},Rep C M w x u→Rep (C.close id true) (aW M id (some .dead)) w (fzA id n cs x) u
 | .own i,u,h=>by
  have hL:=hM.le (cX true ho rfl);simp only [fzA]
  split
  ·rename_i hb
   have:=Nat.eq_of_beq_eq_true hb;subst this;exact .p _ _ (wA hM ho h)
  ·exact h.mono hL
 | .arr i off k,u,h=>by
  have hL:=hM.le (cX true ho rfl);simp only [fzA]
  split
  ·rename_i hb
   have:=Nat.eq_of_beq_eq_true hb;subst this;cases h with
   | arr _ _ _ u h0 ha hrow =>
    rcases hrow _ ho rfl with ⟨rfl,p,cap,rfl,hc⟩ | ⟨b,cap,rfl,hn,hc,hb⟩
    ·rw [Nat.zero_mul,List.take_zero]
     exact .p _ _ (.sl 0 [] p cap (fun _=>undef) (Nat.zero_le _) hc (fun i h=>by simp at h) (fun i h=>by simp at h) (fun i h=>by simp at h))
    ·rcases hM.row _ _ _ _ ho with ⟨F3,_⟩ | ⟨b',arr,inf,Ar,q1,q2,q3,q4,q5,q6,q7,q8⟩
     ·rw [hb] at F3;cases F3
     ·rw [hb] at Ar;cases Ar
      have hle:cs.length≤arr.size:=by rw [q3,q4];exact Nat.mul_le_mul_right _ q5
      have hlt:∀ i,i<((cs.drop off).take (k*(cs.length / n))).length→off+i<cs.length:=fun i hi=>by simp at hi;omega
      refine .p _ _ (.sl k _ _ cap (fun j=>arr.getD (off+j) undef) hn hc (fun j hj=>⟨b,off,rfl,.inr ⟨rfl,hb⟩,bM q1 (by have:=hlt j hj;omega)⟩) (fun j hj => ?_) (fun j hj=>q8 _ (hlt j hj)))
      simp only [List.getElem_take,List.getElem_drop];exact (q7 _ (hlt j hj)).mono (fun _ h => .inl h) (fun _ _=>rfl)
  ·exact h.mono hL
 | .ptr i off,u,h=>by
  have hL:=hM.le (cX true ho rfl);simp only [fzA]
  split
  ·rename_i hb
   have:=Nat.eq_of_beq_eq_true hb;subst this;obtain ⟨b,rfl,hb⟩:=gQ h (jC ho rfl)
   rcases hM.row _ _ _ _ ho with ⟨hn,_⟩ | ⟨b',arr,inf,Ar,q1,q2,q3,q4,q5,q6,q7,q8⟩
   ·rw [hb] at hn;cases hn
   ·rw [hb] at Ar;cases Ar
    have hle:cs.length≤arr.size:=by rw [q3,q4];exact Nat.mul_le_mul_right _ q5
    have:=Rep.rp (C:=C.close i true) (M:=aW M i (some .dead)) (w:=w) cs off b 0 (fun j=>arr.getD j undef) (fun i hi=>⟨.inr ⟨rfl,hb⟩,by rw [gS];exact bM q1 (by omega)⟩) (fun i hi=>(q7 i hi).mono (fun _ h => .inl h) (fun _ _=>rfl)) q8
    rwa [gS] at this
  ·exact h.mono hL
 | .agg l,u,h=>by
  cases h with
  | agg _ vs h0 h1 h2 =>
   simp only [fzA];obtain ⟨q1,q2⟩:=kY (us:=fun i=>vs.getD i undef) h2
   exact lR (fun i hi=>h0 i (by omega)) (by omega) q2
 | .tup l,u,h=>by
  cases h with
  | tup _ vs h1 h2 =>
   simp only [fzA];obtain ⟨q1,q2⟩:=kY (us:=fun i=>vs.getD i undef) h2
   exact .tup _ _ (by omega) q2
 | .fn f a b,u,h=>by
  cases h with
  | fn _ _ _ us vs h1 h2 h3 h4 =>
   simp only [fzA];obtain ⟨q1,q2⟩:=kY (us:=fun i=>us.getD i undef) h3
   obtain ⟨r1,r2⟩:=kY (us:=fun i=>vs.getD i undef) h4
   exact .fn f _ _ us vs (by omega) (by omega) q2 r2
 | .p x,u,h=>by simp only [fzA];exact h.mono (hM.le (cX true ho rfl))
 | .rp cs o,u,h=>by simp only [fzA];exact h.mono (hM.le (cX true ho rfl))
 | .yld l,u,h=>by simp only [fzA];exact h.mono (hM.le (cX true ho rfl))
 | .kb b,u,h=>by simp only [fzA];exact h.mono (hM.le (cX true ho rfl))
 | .mp i,u,h=>by simp only [fzA];exact h.mono (hM.le (cX true ho rfl))
 | .pa i q,u,h=>by simp only [fzA];exact h.mono (hM.le (cX true ho rfl))
 | .any,u,h=>by simp only [fzA];exact .any _
theorem kY:∀ {l:List AV} {us:Nat→Value},(∀ i (h:i<l.length),Rep C M w l[i] (us i))→(fzL id n cs l).length=l.length∧∀ i (h:i<(fzL id n cs l).length),Rep (C.close id true) (aW M id (some .dead)) w (fzL id n cs l)[i] (us i)
 | [],_,_=>⟨xA ..,  fun i h=>by simp [fzL] at h⟩
 | x::r,us,h=>by
  refine ⟨xA ..,fun i hi => ?_⟩
  have:=hM;have:=ho;obtain ⟨_,q2⟩:=kY (l:=r) (us:=fun i=>us (i+1)) (fun i hi=>h (i+1) (by simpa using hi))
  have e:fzL id n cs (x::r)=fzA id n cs x::fzL id n cs r:=by simp only [fzL]
  simp only [e];cases i with
  | zero=>exact aJg (h 0 (by simp))
  | succ i=>exact q2 i (by simpa [xA] using hi)
end
end

def fzO(id n:Nat)(cs:List PV):Option AO→Option AO
 | some (.box ty l)=>some (.box ty (fzL id n cs l))
 | x=>x
def Re(id:Nat)(st:St):Option St:=match fO st.m id with
 | some r=>some ⟨fzL id r.2.1 r.2.2 st.t,(aW st.m id (some .dead)).map (fzO id r.2.1 r.2.2)⟩
 | none=>none

theorem jX{id n:Nat}{cs:List PV}{m:Mem}{j:Nat}{o':AO}(h:(m.map (fzO id n cs))[j]? = some (some o')):∃ o,m[j]? = some (some o)∧fzO id n cs (some o)=some o':=by
 rw [jU] at h
 cases hm:m[j]? with
 | none=>rw [hm] at h;cases h
 | some x =>
  rw [hm] at h
  cases x with
  | none=>simp [fzO] at h
  | some o=>exact ⟨o,rfl,by simpa using h⟩
theorem bDb{id n:Nat}{cs:List PV}{o:AO}{ty k:Nat}{ds:List PV}(h:fzO id n cs (some o)=some (.row ty k ds)):o = .row ty k ds:=by cases o <;> simp [fzO] at h ⊢;exact h
theorem pJ{id n:Nat}{cs:List PV}{o o':AO}(h:fzO id n cs (some o)=some o'):o'.live=o.live:=by cases o <;> (simp [fzO] at h;subst h;rfl)

theorem bGo{id:Nat}{st Am:St}{a:Act}(hf:Re id st=some Am)(hs:Sim P C0 M0 w0 st a w):Sim P C0 M0 w0 Am a w:=by
 obtain ⟨C,hS,hM,hF,hD⟩:=hs;unfold Re at hf
 split at hf
 ·rename_i r hr
  cases hf;have ho:=dC hr;have hk:=cX (C:=C) (w:=w) true ho rfl;have hm:=pN hM true ho rfl;have hL:Le (C.close id true) (C.close id true) (aW st.m id (some .dead)) ((aW st.m id (some .dead)).map (fzO id r.2.1 r.2.2)) w w:=by
   refine ⟨fun i o h => ?_,fun i o h ty n cs hm => ?_,fun i o h o' hm hl => ?_,fun _ h=>h,fun _ _=>rfl⟩
   ·rw [jU,h]
    cases o <;> exact ⟨_,rfl⟩
   ·obtain ⟨o2,h2,h3⟩:=jX hm
    rw [bDb h3] at h2
    exact ⟨_,h2⟩
   ·obtain ⟨o2,h2,h3⟩:=jX hm
    rw [h] at h2;cases h2
    exact ⟨by rw [← pJ h3];exact hl,rfl,rfl⟩
  have Kf:Fr (C.close id true) (aW st.m id (some .dead)) w (C.close id true) ((aW st.m id (some .dead)).map (fzO id r.2.1 r.2.2)) w:=by
   refine ⟨rfl,rfl,rfl,dG _,fun _ _ _=>rfl,fun i o h=>⟨hL.ids i o h,rfl,rfl⟩,hL.row,fun i o h o' hm hl=>(hL.liv i o h o' hm hl).1,fun i o b h hl hb => ?_,fun _ h=>h,fun _ h => .inl h⟩
   obtain ⟨o2,h2,h3⟩:=jX h;exact .inr ⟨i,o2,h2,by rw [← pJ h3];exact hl,hb⟩
  refine ⟨C.close id true,⟨?_,fun i hi => ?_⟩,⟨fun i ty n cs h => ?_,fun i ty cs h => ?_,fun i es cl h => ?_,fun i i' o1 o2 b h1 l1 h2 l2 => ?_,fun i o b h hl => ?_,hm.Fs,fun i o b h hl => ?_⟩,(hF.trans hk).trans Kf,(hD.fr hM (gO rfl) hk).fr hm (fun i to ti sz L q=>by
   obtain ⟨o2,h2,h3⟩:=jX q;cases o2 with
   | pk=>simp only [fzO,Option.some.injEq] at h3;rw [← h3];exact h2
   | _=>simp [fzO] at h3) Kf⟩
  ·rw [xA];exact hS.size
  ·exact ((kY hM ho hS.rep).2 i hi).mono hL
  ·obtain ⟨o2,h2,h3⟩:=jX h
   rw [bDb h3] at h2
   exact hm.row _ _ _ _ h2
  ·obtain ⟨o2,h2,h3⟩:=jX h
   cases o2 with
   | box Cr l =>
    simp only [fzO,Option.some.injEq,AO.box.injEq] at h3
    obtain ⟨rfl,rfl⟩:=h3;have hne:i≠id:=fun e=>by
     subst e;rw [aU] at h2;cases h2
    obtain ⟨b,arr,q0,q1,q2,q3,q4⟩:=hM.box _ _ _ ((aP st.m id i _ _ (Ne.symm hne)).1 h2);obtain ⟨r1,r2⟩:=kY hM ho (us:=fun j=>arr.getD j undef) q3
    exact ⟨b,arr,q0,q1,by rw [r1];exact q2,fun j hj=>(r2 j hj).mono hL,fun j hj=>q4 j (by rw [r1] at hj;exact hj)⟩
   | row=>simp [fzO] at h3
   | mp=>simp [fzO] at h3
   | pk=>simp [fzO] at h3
   | dead=>simp [fzO] at h3
  ·obtain ⟨o2,h2,h3⟩:=jX h
   have:o2 = .mp es cl:=by cases o2 <;> simp [fzO] at h3 ⊢;exact h3
   subst this;obtain ⟨b,arr,q0,q1,q2,q3⟩:=hm.mp _ _ _ h2;refine ⟨b,arr,q0,q1,q2,fun j hj => ?_⟩
   obtain ⟨en,r1,r2,r3,r4⟩:=q3 j hj;exact ⟨en,r1,r2,r3,r4.mono hL.F hL.fz⟩
  ·obtain ⟨o3,h3,h4⟩:=jX h1
   obtain ⟨o5,h5,h6⟩:=jX h2;exact hm.inj i i' o3 o5 b h3 (by rw [← pJ h4];exact l1) h5 (by rw [← pJ h6];exact l2)
  ·obtain ⟨o3,h3,h4⟩:=jX h
   exact hm.nF i o3 b h3 (by rw [← pJ h4];exact hl)
  ·obtain ⟨o3,h3,h4⟩:=jX h
   exact hm.lt i o3 b h3 (by rw [← pJ h4];exact hl)
 ·cases hf

def forget:List Nat→List AV→List AV
 | [],l=>l
 | i::r,l=>forget r (l.set i .any)
theorem xB:∀ (g:List Nat) {ts:List AV} {us:Array Value},eF C M w ts us→eF C M w (forget g ts) us
 | [],_,_,h=>h
 | i::r,ts,us,h=>by
  refine xB r ⟨by simpa using h.size,fun j hj => ?_⟩
  simp only [zS] at hj
  rw [xZ]
  split
  ·exact .any _
  ·exact h.rep j hj
theorem aLt(g:List Nat){st:St}{a:Act}(hs:Sim P C0 M0 w0 st a w):Sim P C0 M0 w0 ⟨forget g st.t,st.m⟩ a w:=by
 obtain ⟨C,hS,hM,hF,hD⟩:=hs;exact ⟨C,xB g hS,hM,hF,hD⟩
end
section
variable {P:Program} {T:TT} {E:Env} {C C0:Cx} {M M0:Mem} {w w0:World}

def Cx.shut(C:Cx)(id:Nat):Cx:={ ι:=C.ι,κ:=C.κ,F:=fun b=>C.F b∨aWn (C.κ id) b }
section
variable {id to ti sz:Nat} {L:List (Nat × List PV)}
variable (q:aWo C M w id to ti sz L) (ho:M[id]? = some (some (.pk to ti sz L))) (hL:Le C (C.shut id) M (aW M id (some .dead)) w w)
include q ho hL
end

def fzP(id:Nat)(st:St):Option St:=none
theorem bGm{id:Nat}{st Am:St}{a:Act}(h:fzP id st=some Am)(hs:Sim P C0 M0 w0 st a w):Sim P C0 M0 w0 Am a w:=by
 unfold fzP at h
 cases h
def nlP(i to ti sz:Nat)(st:St):Option St:=none
theorem bGn{i to ti sz:Nat}{st Am:St}{a:Act}(h:nlP i to ti sz st=some Am)(hs:Sim P C0 M0 w0 st a w):Sim P C0 M0 w0 Am a w:=by
 unfold nlP at h
 cases h
end
section
variable {P:Program} {T:TT} {E:Env} {C C0:Cx} {M M0:Mem} {w w0:World}

inductive Cz where
 | bx (cs:List PV)
 | mp (es:List (Value × PV))
mutual
def czA(id:Nat)(y:Cz):AV→AV
 | .ptr i off=>match Nat.beq i id with
  | true=>match y with
   | .bx cs => .rp cs off
   | .mp _ => .ptr i off
  | false => .ptr i off
 | .mp i=>match Nat.beq i id with
  | true=>match y with
   | .mp es => .p (.mp es)
   | .bx _ => .mp i
  | false => .mp i
 | .agg l=>kD (czL id y l)
 | .tup l => .tup (czL id y l)
 | .fn f a b => .fn f (czL id y a) (czL id y b)
 | .own i => .own i
 | .arr i off k => .arr i off k
 | .p x => .p x
 | .rp cs o => .rp cs o
 | .yld l => .yld l
 | .kb b => .kb b
 | .pa i q => .pa i q
 | .any => .any
def czL(id:Nat)(y:Cz):List AV→List AV
 | []=>[]
 | x::r=>czA id y x::czL id y r
end
theorem wZ(id:Nat)(y:Cz):∀ l:List AV,(czL id y l).length=l.length
 | []=>rfl
 | x::r=>by simp only [czL,nM,wZ id y r]

def Ke:AV→Option PV
 | .p x=>some x
 | .kb b=>some (.v (.bool b))
 | .rp cs off=>some (.rp cs off)
 | _=>none
def bGj:List AV→Option (List PV)
 | []=>some []
 | x::r=>match Ke x with
  | some y=>match bGj r with
   | some l=>some (y::l)
   | none=>none
  | none=>none
theorem bCz:∀ {l:List AV} {cs:List PV},bGj l=some cs→cs.length=l.length∧∀ (i:Nat) (h:i<l.length) (h':i<cs.length),Ke l[i]=some cs[i]
 | [],cs,h=>by cases h;exact ⟨rfl,fun i h=>by simp at h⟩
 | x::r,cs,h=>by
  unfold bGj at h
  split at h
  ·rename_i y hy
   split at h
   ·rename_i k hk
    cases h;obtain ⟨q1,q2⟩:=bCz hk;refine ⟨by simp [q1],fun i h1 h2 => ?_⟩
    cases i with
    | zero=>exact hy
    | succ i=>exact q2 i (by simpa using h1) (by simpa using h2)
   ·cases h
  ·cases h
theorem bPx{x:AV}{y:PV}{u:Value}(e:Ke x=some y)(h:Rep C M w x u):bQ C.F w y u:=by
 cases x <;> simp [Ke] at e
 ·subst e;cases h;assumption
 ·subst e;cases h;exact .rp _ _ _ _ _ ‹_› ‹_› ‹_›
 ·subst e;cases h;exact .v _
def bWy(y:Cz)(o:AO):Prop:=match y with
 | .bx cs=>∃ ty l,o = .box ty l∧bGj l=some cs
 | .mp es=>∃ cl,o = .mp es cl
theorem bWy.live{y:Cz}{o:AO}(h:bWy y o):o.live=true:=by
 cases y with
 | bx cs=>obtain ⟨ty,l,rfl,_⟩:=h;rfl
 | mp es=>obtain ⟨cl,rfl⟩:=h;rfl

section
variable {id:Nat} {y:Cz} {o:AO} (hM:aO P C M w) (ho:M[id]? = some (some o)) (hz:bWy y o)
include hM ho hz
mutual
theorem bGk:∀ {x:AV} {u:Value},Rep C M w x u→Rep (C.close id true) (aW M id (some .dead)) w (czA id y x) u
 | .ptr i off,u,h=>by
  have hL:=hM.le (cX true ho hz.live);simp only [czA]
  split
  ·rename_i hb
   have:=Nat.eq_of_beq_eq_true hb;subst this;cases y with
   | mp es=>exact h.mono hL
   | bx cs =>
    obtain ⟨ty,l,rfl,hl⟩:=hz;obtain ⟨b,rfl,hb⟩:=gQ h (jC ho rfl);obtain ⟨b',arr,Ar,q1,q2,q3,q4⟩:=hM.box _ _ _ ho;rw [hb] at Ar;cases Ar
    obtain ⟨r1,r2⟩:=bCz hl;have:=Rep.rp (C:=C.close i true) (M:=aW M i (some .dead)) (w:=w) cs off b 0 (fun j=>arr.getD j undef) (fun i hi=>⟨.inr ⟨rfl,hb⟩,by rw [gS];exact bM q1 (by omega)⟩)
     (fun i hi=>(bPx (r2 i (by omega) hi) (q3 i (by omega))).mono (fun _ h => .inl h) (fun _ _=>rfl)) (fun i hi=>q4 i (by omega))
    rwa [gS] at this
  ·exact h.mono hL
 | .mp i,u,h=>by
  have hL:=hM.le (cX true ho hz.live);simp only [czA]
  split
  ·rename_i hb
   have:=Nat.eq_of_beq_eq_true hb;subst this;cases y with
   | bx cs=>exact h.mono hL
   | mp es =>
    obtain ⟨cl,rfl⟩:=hz;obtain ⟨b,arr,rfl,hb,q1,q2,q3⟩:=aMf hM h (bD.2 ho);refine .p _ _ (.mp es b cl arr (fun j=>(arr.getD j ⟨undef,undef,0⟩).val) (.inr ⟨rfl,hb⟩) q1 q2 (fun j hj => ?_) fun j hj => ?_)
    ·obtain ⟨e,r1,r2,r3,r4⟩:=q3 j hj
     exact ⟨e,r1,r2,r3,by rw [Bn,r1];rfl⟩
    ·obtain ⟨e,r1,r2,r3,r4⟩:=q3 j hj
     rw [Bn,r1];exact r4.mono (fun _ h => .inl h) (fun _ _=>rfl)
  ·exact h.mono hL
 | .agg l,u,h=>by
  cases h with
  | agg _ vs h0 h1 h2 =>
   simp only [czA];obtain ⟨q1,q2⟩:=kX (us:=fun i=>vs.getD i undef) h2
   exact lR (fun i hi=>h0 i (by omega)) (by omega) q2
 | .tup l,u,h=>by
  cases h with
  | tup _ vs h1 h2 =>
   simp only [czA];obtain ⟨q1,q2⟩:=kX (us:=fun i=>vs.getD i undef) h2
   exact .tup _ _ (by omega) q2
 | .fn f a b,u,h=>by
  cases h with
  | fn _ _ _ us vs h1 h2 h3 h4 =>
   simp only [czA];obtain ⟨q1,q2⟩:=kX (us:=fun i=>us.getD i undef) h3
   obtain ⟨r1,r2⟩:=kX (us:=fun i=>vs.getD i undef) h4
   exact .fn f _ _ us vs (by omega) (by omega) q2 r2
 | .own i,u,h=>by simp only [czA];exact h.mono (hM.le (cX true ho hz.live))
 | .arr i off k,u,h=>by simp only [czA];exact h.mono (hM.le (cX true ho hz.live))
 | .p x,u,h=>by simp only [czA];exact h.mono (hM.le (cX true ho hz.live))
 | .rp cs o,u,h=>by simp only [czA];exact h.mono (hM.le (cX true ho hz.live))
 | .yld l,u,h=>by simp only [czA];exact h.mono (hM.le (cX true ho hz.live))
 | .kb b,u,h=>by simp only [czA];exact h.mono (hM.le (cX true ho hz.live))
 | .pa i q,u,h=>by simp only [czA];exact h.mono (hM.le (cX true ho hz.live))
 | .any,u,h=>by simp only [czA];exact .any _
theorem kX:∀ {l:List AV} {us:Nat→Value},(∀ i (h:i<l.length),Rep C M w l[i] (us i))→(czL id y l).length=l.length∧∀ i (h:i<(czL id y l).length),Rep (C.close id true) (aW M id (some .dead)) w (czL id y l)[i] (us i)
 | [],_,_=>by
  have:=hM;have:=ho;have:=hz;exact ⟨wZ ..,fun i h=>by simp [czL] at h⟩
 | x::r,us,h=>by
  refine ⟨wZ ..,fun i hi => ?_⟩
  obtain ⟨_,q2⟩:=kX (l:=r) (us:=fun i=>us (i+1)) (fun i hi=>h (i+1) (by simpa using hi))
  have e:czL id y (x::r)=czA id y x::czL id y r:=by simp only [czL]
  simp only [e];cases i with
  | zero=>exact bGk (h 0 (by simp))
  | succ i=>exact q2 i (by simpa [wZ] using hi)
end
end

def czO(id:Nat)(y:Cz):Option AO→Option AO
 | some (.box ty l)=>some (.box ty (czL id y l))
 | x=>x
def cEg(m:Mem)(id:Nat):Option Cz:=match bK m id with
 | some (.box _ l)=>(bGj l).map .bx
 | some (.mp es _)=>some (.mp es)
 | _=>none
def fzM(id:Nat)(st:St):Option St:=match cEg st.m id with
 | some y=>some ⟨czL id y st.t,(aW st.m id (some .dead)).map (czO id y)⟩
 | none=>none
theorem bPy{m:Mem}{id:Nat}{y:Cz}(h:cEg m id=some y):∃ o,m[id]? = some (some o)∧bWy y o:=by
 unfold cEg at h
 split at h
 ·rename_i ty l ho
  cases hl:bGj l with
  | none=>rw [hl] at h;cases h
  | some cs=>rw [hl] at h;cases h;exact ⟨_,bD.1 ho,ty,l,rfl,hl⟩
 ·rename_i es cl ho
  cases h;exact ⟨_,bD.1 ho,cl,rfl⟩
 ·cases h
theorem jW{id:Nat}{y:Cz}{m:Mem}{j:Nat}{o':AO}(h:(m.map (czO id y))[j]? = some (some o')):∃ o,m[j]? = some (some o)∧czO id y (some o)=some o':=by
 rw [jU] at h
 cases hm:m[j]? with
 | none=>rw [hm] at h;cases h
 | some x =>
  rw [hm] at h
  cases x with
  | none=>simp [czO] at h
  | some o=>exact ⟨o,rfl,by simpa using h⟩
theorem bDa{id:Nat}{y:Cz}{o:AO}{ty k:Nat}{ds:List PV}(h:czO id y (some o)=some (.row ty k ds)):o = .row ty k ds:=by cases o <;> simp [czO] at h ⊢;exact h
theorem pH{id:Nat}{y:Cz}{o o':AO}(h:czO id y (some o)=some o'):o'.live=o.live:=by cases o <;> (simp [czO] at h;subst h;rfl)

theorem bGl{id:Nat}{st Am:St}{a:Act}(hf:fzM id st=some Am)(hs:Sim P C0 M0 w0 st a w):Sim P C0 M0 w0 Am a w:=by
 obtain ⟨C,hS,hM,hF,hD⟩:=hs;unfold fzM at hf
 split at hf
 ·rename_i y hr
  cases hf;obtain ⟨o,ho,hz⟩:=bPy hr;have hk:=cX (C:=C) (w:=w) true ho hz.live;have hm:=pN hM true ho hz.live;have hL:Le (C.close id true) (C.close id true) (aW st.m id (some .dead)) ((aW st.m id (some .dead)).map (czO id y)) w w:=by
   refine ⟨fun i o h => ?_,fun i o h ty n cs hm => ?_,fun i o h o' hm hl => ?_,fun _ h=>h,fun _ _=>rfl⟩
   ·rw [jU,h]
    cases o <;> exact ⟨_,rfl⟩
   ·obtain ⟨o2,h2,h3⟩:=jW hm
    rw [bDa h3] at h2
    exact ⟨_,h2⟩
   ·obtain ⟨o2,h2,h3⟩:=jW hm
    rw [h] at h2;cases h2
    exact ⟨by rw [← pH h3];exact hl,rfl,rfl⟩
  have Kf:Fr (C.close id true) (aW st.m id (some .dead)) w (C.close id true) ((aW st.m id (some .dead)).map (czO id y)) w:=by
   refine ⟨rfl,rfl,rfl,dG _,fun _ _ _=>rfl,fun i o h=>⟨hL.ids i o h,rfl,rfl⟩,hL.row,fun i o h o' hm hl=>(hL.liv i o h o' hm hl).1,fun i o b h hl hb => ?_,fun _ h=>h,fun _ h => .inl h⟩
   obtain ⟨o2,h2,h3⟩:=jW h;exact .inr ⟨i,o2,h2,by rw [← pH h3];exact hl,hb⟩
  refine ⟨C.close id true,⟨?_,fun i hi => ?_⟩,⟨fun i ty n cs h => ?_,fun i ty cs h => ?_,fun i es cl h => ?_,fun i i' o1 o2 b h1 l1 h2 l2 => ?_,fun i o b h hl => ?_,hm.Fs,fun i o b h hl => ?_⟩,(hF.trans hk).trans Kf,(hD.fr hM (gO rfl) hk).fr hm (fun i to ti sz L q=>by
   obtain ⟨o2,h2,h3⟩:=jW q;cases o2 with
   | pk=>simp only [czO,Option.some.injEq] at h3;rw [← h3];exact h2
   | _=>simp [czO] at h3) Kf⟩
  ·rw [wZ];exact hS.size
  ·exact ((kX hM ho hz hS.rep).2 i hi).mono hL
  ·obtain ⟨o2,h2,h3⟩:=jW h
   rw [bDa h3] at h2
   exact hm.row _ _ _ _ h2
  ·obtain ⟨o2,h2,h3⟩:=jW h
   cases o2 with
   | box Cr l =>
    simp only [czO,Option.some.injEq,AO.box.injEq] at h3
    obtain ⟨rfl,rfl⟩:=h3;have hne:i≠id:=fun e=>by
     subst e;rw [aU] at h2;cases h2
    obtain ⟨b,arr,q0,q1,q2,q3,q4⟩:=hM.box _ _ _ ((aP st.m id i _ _ (Ne.symm hne)).1 h2);obtain ⟨r1,r2⟩:=kX hM ho hz (us:=fun j=>arr.getD j undef) q3
    exact ⟨b,arr,q0,q1,by rw [r1];exact q2,fun j hj=>(r2 j hj).mono hL,fun j hj=>q4 j (by rw [r1] at hj;exact hj)⟩
   | row=>simp [czO] at h3
   | mp=>simp [czO] at h3
   | pk=>simp [czO] at h3
   | dead=>simp [czO] at h3
  ·obtain ⟨o2,h2,h3⟩:=jW h
   have:o2 = .mp es cl:=by cases o2 <;> simp [czO] at h3 ⊢;exact h3
   subst this;obtain ⟨b,arr,q0,q1,q2,q3⟩:=hm.mp _ _ _ h2;refine ⟨b,arr,q0,q1,q2,fun j hj => ?_⟩
   obtain ⟨en,r1,r2,r3,r4⟩:=q3 j hj;exact ⟨en,r1,r2,r3,r4.mono hL.F hL.fz⟩
  ·obtain ⟨o3,h3,h4⟩:=jW h1
   obtain ⟨o5,h5,h6⟩:=jW h2;exact hm.inj i i' o3 o5 b h3 (by rw [← pH h4];exact l1) h5 (by rw [← pH h6];exact l2)
  ·obtain ⟨o3,h3,h4⟩:=jW h
   exact hm.nF i o3 b h3 (by rw [← pH h4];exact hl)
  ·obtain ⟨o3,h3,h4⟩:=jW h
   exact hm.lt i o3 b h3 (by rw [← pH h4];exact hl)
 ·cases hf
end
section
variable {P:Program} {T:TT} {E:Env} {C C0:Cx} {M M0:Mem} {w w0:World}

def idx:List Nat→Nat→Nat→Option Nat
 | [],_,_=>none
 | j::r,i,n=>match Nat.beq j i with
  | true=>some n
  | false=>idx r i (n+1)
def rnI(k:Nat)(ids:List Nat)(i:Nat):Option Nat:=match Nat.blt i k with
 | true=>some i
 | false=>idx ids i k
mutual
def mpA(f:Nat→Option Nat):AV→Option AV
 | .own i=>(f i).map .own
 | .arr i off n=>(f i).map fun j => .arr j off n
 | .ptr i off=>(f i).map fun j => .ptr j off
 | .mp i=>(f i).map .mp
 | .pa i q=>(f i).map fun j => .pa j q
 | .agg l=>(mpL f l).map .agg
 | .tup l=>(mpL f l).map .tup
 | .fn g a b=>match mpL f a with
  | some a'=>(mpL f b).map fun b' => .fn g a' b'
  | none=>none
 | .p x=>some (.p x)
 | .rp cs o=>some (.rp cs o)
 | .yld l=>some (.yld l)
 | .kb b=>some (.kb b)
 | .any=>some .any
def mpL(f:Nat→Option Nat):List AV→Option (List AV)
 | []=>some []
 | x::r=>match mpA f x with
  | some y=>(mpL f r).map (y :: ·)
  | none=>none
end
def mpO(f:Nat→Option Nat):AO→Option AO
 | .row ty n cs=>some (.row ty n cs)
 | .box ty l=>(mpL f l).map (.box ty ·)
 | .mp es cl=>some (.mp es cl)
 | .pk to ti sz L=>some (.pk to ti sz L)
 | .dead=>some .dead
def mpM(f:Nat→Option Nat):Mem→Option Mem
 | []=>some []
 | none::r=>(mpM f r).map (none :: ·)
 | some o::r=>match mpO f o with
  | some o'=>(mpM f r).map (some o' :: ·)
  | none=>none
abbrev rnL(k:Nat)(ids:List Nat):=mpL (rnI k ids)
abbrev rnM(k:Nat)(ids:List Nat):=mpM (rnI k ids)
def at?(m:Mem)(i:Nat):Option AO:=bK m i
def distinct(k:Nat):List Nat→Bool
 | []=>true
 | i::r=>match Nat.ble k i with
  | true=>match r.all (fun j => !Nat.beq j i) with
   | true=>distinct k r
   | false=>false
  | false=>false
def firsts(m:Mem):Nat→Nat→Mem
 | 0,_=>[]
 | k+1,i=>at? m i::firsts m k (i+1)
def pick(k:Nat)(ids:List Nat)(st:St):Option St:=match distinct k ids with
 | true=>match rnL k ids st.t with
  | some t=>(rnM k ids (firsts st.m k 0++ids.map (at? st.m))).map (⟨t,·⟩)
  | none=>none
 | false=>none

theorem wY:∀ (ids:List Nat) (i n j:Nat),idx ids i n=some j→n≤j∧ids[j-n]? = some i
 | [],i,n,j,h=>by cases h
 | a::r,i,n,j,h=>by
  unfold idx at h
  split at h
  ·rename_i hb
   cases h;exact ⟨dG _,by rw [bHr];simp [Nat.eq_of_beq_eq_true hb]⟩
  ·obtain ⟨h1,h2⟩:=wY r i (n+1) j h
   refine ⟨by omega,?_⟩
   rw [show j-n=(j-(n+1))+1 by omega]
   simpa using h2
theorem iS{k:Nat}:∀ {ids:List Nat},distinct k ids=true→(∀ i∈ids,k≤i)∧ids.Nodup
 | [],_=>⟨by simp,.nil⟩
 | a::r,h=>by
  unfold distinct at h
  split at h
  ·rename_i h1
   split at h
   ·rename_i h2
    obtain ⟨h3,h4⟩:=iS h;refine ⟨fun i hi => ?_,?_⟩
    ·rcases gK.1 hi with rfl | hi
     ·exact Nat.le_of_ble_eq_true h1
     ·exact h3 i hi
    ·refine List.nodup_cons.2 ⟨fun hm => ?_,h4⟩
     have:=gC.1 h2 a hm;simp at this
   ·cases h
  ·cases h
theorem aJe(m:Mem):∀ (k i j:Nat),j<k→(firsts m k i)[j]? = some (bK m (i+j))
 | 0,i,j,h=>by omega
 | k+1,i,j,h=>by
  unfold firsts;cases j with
  | zero=>simp [at?]
  | succ j =>
   have:=aJe m k (i+1) j (by omega)
   rw [List.getElem?_cons_succ,this,show i+1+j=i+(j+1) by omega]
theorem mY(m:Mem):∀ (k i:Nat),(firsts m k i).length=k
 | 0,_=>rfl
 | k+1,i=>by simp [firsts,mY m k]

def nL(k:Nat)(ids:List Nat)(j:Nat):Option Nat:=if j<k then some j else ids[j-k]?
theorem aLs{k:Nat}{ids:List Nat}{i j:Nat}(h:rnI k ids i=some j):nL k ids j=some i:=by
 unfold rnI at h
 split at h
 ·rename_i hb
  cases h;have:i<k:=by simpa [Nat.blt_eq] using hb
  simp [nL,this]
 ·obtain ⟨h1,h2⟩:=wY _ _ _ _ h
  simp [nL,Nat.not_lt.2 h1,h2]
theorem bCx{k:Nat}{ids:List Nat}(hd:distinct k ids=true){j j' i:Nat}(h:nL k ids j=some i)(h':nL k ids j'=some i):j=j':=by
 obtain ⟨h1,h2⟩:=iS hd;unfold nL at h h'
 split at h <;> split at h'
 ·cases h;cases h';rfl
 ·cases h
  have:=h1 _ (Bp h');omega
 ·cases h'
  have:=h1 _ (Bp h);omega
 ·obtain ⟨q1,q2⟩:=Bs.1 h
  obtain ⟨q3,q4⟩:=Bs.1 h';have hp:=List.pairwise_iff_getElem.1 h2
  rcases Nat.lt_trichotomy (j-k) (j'-k) with hl | hl | hl
  ·exact absurd (q2.trans q4.symm) (hp _ _ q1 q3 hl)
  ·omega
  ·exact absurd (q4.trans q2.symm) (hp _ _ q3 q1 hl)

def Cx.rn(C:Cx)(k:Nat)(ids:List Nat):Cx:={ ι:=fun j=>(nL k ids j).bind C.ι,κ:=fun j=>match nL k ids j with | some i=>C.κ i | none=>0,F:=C.F }

theorem aDi{f:Nat→Option Nat}:∀ {m m':Mem},mpM f m=some m'→m'.length=m.length∧(∀ (j:Nat) (o':AO),m'[j]? = some (some o')→∃ o,m[j]? = some (some o)∧mpO f o=some o')∧(∀ (j:Nat) (o:AO),m[j]? = some (some o)→∃ o',m'[j]? = some (some o')∧mpO f o=some o')
 | [],m',h=>by cases h;exact ⟨rfl,fun j o h=>by simp at h,fun j o h=>by simp at h⟩
 | none::r,m',h=>by
  unfold mpM at h
  cases hr:mpM f r with
  | none=>rw [hr] at h;cases h
  | some r' =>
   rw [hr] at h;cases h
   obtain ⟨h1,h2,h3⟩:=aDi hr;refine ⟨by simp [h1],fun j o hj => ?_,fun j o hj => ?_⟩
   ·cases j with
    | zero=>simp at hj
    | succ j=>exact h2 j o (by simpa using hj)
   ·cases j with
    | zero=>simp at hj
    | succ j=>exact h3 j o (by simpa using hj)
 | some o::r,m',h=>by
  unfold mpM at h
  split at h
  ·rename_i o' Dd
   cases hr:mpM f r with
   | none=>rw [hr] at h;cases h
   | some r' =>
    rw [hr] at h;cases h
    obtain ⟨h1,h2,h3⟩:=aDi hr;refine ⟨by simp [h1],fun j o hj => ?_,fun j o hj => ?_⟩
    ·cases j with
     | zero=>simp at hj;subst hj;exact ⟨_,rfl,Dd⟩
     | succ j=>exact h2 j o (by simpa using hj)
    ·cases j with
     | zero=>simp at hj;subst hj;exact ⟨_,rfl,Dd⟩
     | succ j=>exact h3 j o (by simpa using hj)
  ·cases h

theorem bI{f:Nat→Option Nat}{o o':AO}(h:mpO f o=some o'):o'.live=o.live:=by
 cases o <;> simp only [mpO,lS,Option.some.injEq] at h
 ·subst h;rfl
 ·obtain ⟨_,_,rfl⟩:=h;rfl
 ·subst h;rfl
 ·subst h;rfl
 ·subst h;rfl
theorem lK{f:Nat→Option Nat}{o:AO}{ty n:Nat}{cs:List PV}(h:mpO f o=some (.row ty n cs)):o = .row ty n cs:=by
 cases o <;> simp only [mpO,lS,Option.some.injEq] at h
 ·exact h
 ·obtain ⟨_,_,h⟩:=h;cases h
 ·cases h
 ·cases h
 ·cases h
structure bGf (f:Nat→Option Nat) (C C':Cx) (M M':Mem):Prop where
 bk:∀ (i j:Nat) (o':AO),f i=some j→M'[j]? = some (some o')→∃ o,M[i]? = some (some o)∧mpO f o=some o'
 fw:∀ (i j:Nat) (o:AO),f i=some j→M[i]? = some (some o)→∃ o',M'[j]? = some (some o')∧mpO f o=some o'
 at_:∀ i j,f i=some j→C'.ι j=C.ι i∧C'.κ j=C.κ i
 F:∀ b,C.F b→C'.F b

section
variable {f:Nat→Option Nat} {C':Cx} {M':Mem} (hm:bGf f C C' M M')
include hm
set_option linter.unusedSectionVars false in
mutual
theorem tV:∀ {x y:AV} {u:Value},Rep C M w x u→mpA f x=some y→Rep C' M' w y u
 | .own i,y,u,h,hr=>by
  simp only [mpA,lS] at hr
  obtain ⟨j,hj,rfl⟩:=hr;cases h with
  | own _ u h0 ha h =>
   obtain ⟨o,ho⟩:=ha;obtain ⟨o',Dd,_⟩:=hm.fw _ _ _ hj ho;refine .own j u h0 ⟨o',Dd⟩ fun ty n cs hx => ?_
   obtain ⟨o2,e2,e3⟩:=hm.bk _ _ _ hj hx;rw [lK e3] at e2
   rw [(hm.at_ _ _ hj).1,(hm.at_ _ _ hj).2];exact h _ _ _ e2
 | .arr i off n,y,u,h,hr=>by
  simp only [mpA,lS] at hr
  obtain ⟨j,hj,rfl⟩:=hr;cases h with
  | arr _ _ _ u h0 ha h =>
   obtain ⟨o,ho⟩:=ha;obtain ⟨o',Dd,_⟩:=hm.fw _ _ _ hj ho;refine .arr j off n u h0 ⟨o',Dd⟩ fun o3 hx hl => ?_
   obtain ⟨o2,e2,e3⟩:=hm.bk _ _ _ hj hx;rw [(hm.at_ _ _ hj).1];exact h _ e2 (by rw [← bI e3];exact hl)
 | .ptr i off,y,u,h,hr=>by
  simp only [mpA,lS] at hr
  obtain ⟨j,hj,rfl⟩:=hr;cases h with
  | ptr _ _ u h0 ha h hp =>
   obtain ⟨o,ho⟩:=ha;obtain ⟨o',Dd,_⟩:=hm.fw _ _ _ hj ho;refine .ptr j off u h0 ⟨o',Dd⟩ (fun o3 hx hl => ?_) hp
   obtain ⟨o2,e2,e3⟩:=hm.bk _ _ _ hj hx;rw [(hm.at_ _ _ hj).1];exact h _ e2 (by rw [← bI e3];exact hl)
 | .mp i,y,u,h,hr=>by
  simp only [mpA,lS] at hr
  obtain ⟨j,hj,rfl⟩:=hr;cases h with
  | mp _ u h0 ha h =>
   obtain ⟨o,ho⟩:=ha;obtain ⟨o',Dd,_⟩:=hm.fw _ _ _ hj ho;refine .mp j u h0 ⟨o',Dd⟩ fun o3 hx hl => ?_
   obtain ⟨o2,e2,e3⟩:=hm.bk _ _ _ hj hx;rw [(hm.at_ _ _ hj).1];exact h _ e2 (by rw [← bI e3];exact hl)
 | .pa i q,y,u,h,hr=>by
  simp only [mpA,lS] at hr
  obtain ⟨j,hj,rfl⟩:=hr;cases h with
  | pa _ _ u h0 ha h =>
   obtain ⟨o,ho⟩:=ha;obtain ⟨o',Dd,_⟩:=hm.fw _ _ _ hj ho;refine .pa j q u h0 ⟨o',Dd⟩ fun o3 hx hl => ?_
   obtain ⟨o2,e2,e3⟩:=hm.bk _ _ _ hj hx;rw [(hm.at_ _ _ hj).2];exact h _ e2 (by rw [← bI e3];exact hl)
 | .agg l,y,u,h,hr=>by
  simp only [mpA,lS] at hr
  obtain ⟨l',hl,rfl⟩:=hr;cases h with
  | agg _ vs h0 h1 h4 =>
   obtain ⟨q1,q2⟩:=fY (us:=fun i=>vs.getD i undef) h4 hl
   exact .agg _ _ (fun i hi=>h0 i (by omega)) (by omega) q2
 | .tup l,y,u,h,hr=>by
  simp only [mpA,lS] at hr
  obtain ⟨l',hl,rfl⟩:=hr;cases h with
  | tup _ vs h1 h4 =>
   obtain ⟨q1,q2⟩:=fY (us:=fun i=>vs.getD i undef) h4 hl
   exact .tup _ _ (by omega) q2
 | .fn g a b,y,u,h,hr=>by
  simp only [mpA] at hr
  split at hr
  ·rename_i a' ha
   simp only [lS] at hr
   obtain ⟨b',hb,rfl⟩:=hr;cases h with
   | fn _ _ _ us vs h1 h4 h5 h6 =>
    obtain ⟨q1,q2⟩:=fY (us:=fun i=>us.getD i undef) h5 ha
    obtain ⟨r1,r2⟩:=fY (us:=fun i=>vs.getD i undef) h6 hb
    exact .fn g _ _ us vs (by omega) (by omega) q2 r2
  ·cases hr
 | .p x,y,u,h,hr=>by simp only [mpA] at hr;cases hr;cases h with | p _ _ h=>exact .p _ _ (h.mono hm.F (fun _ _=>rfl))
 | .rp cs o,y,u,h,hr=>by
  simp only [mpA] at hr;cases hr
  cases h with | rp _ _ b o us h1 h2 h3=>exact .rp cs _ b o us (fun i hi=>⟨hm.F _ (h1 i hi).1,(h1 i hi).2⟩) (fun i hi=>(h2 i hi).mono hm.F (fun _ _=>rfl)) h3
 | .yld l,y,u,h,hr=>by simp only [mpA] at hr;cases hr;cases h;exact .yld _
 | .kb b,y,u,h,hr=>by simp only [mpA] at hr;cases hr;cases h;exact .kb _
 | .any,y,u,h,hr=>by simp only [mpA] at hr;cases hr;exact .any _
theorem fY:∀ {l ys:List AV} {us:Nat→Value},(∀ i (h:i<l.length),Rep C M w l[i] (us i))→mpL f l=some ys→ys.length=l.length∧∀ i (h:i<ys.length),Rep C' M' w ys[i] (us i)
 | [],_,_,_,hr=>by simp only [mpL] at hr;cases hr;exact ⟨rfl,fun i h=>by simp at h⟩
 | x::r,ys,us,h,hr=>by
  simp only [mpL] at hr
  split at hr
  ·rename_i y hy
   simp only [lS] at hr
   obtain ⟨r',Ha,rfl⟩:=hr;obtain ⟨q1,q2⟩:=fY (us:=fun i=>us (i+1)) (fun i hi=>h (i+1) (by simpa using hi)) Ha
   refine ⟨by simp [q1],fun i hi => ?_⟩
   cases i with
   | zero=>exact tV (h 0 (by simp)) hy
   | succ i=>exact q2 i (by simpa using hi)
  ·cases hr
end
end

theorem rW{k:Nat}{ids:List Nat}{M':Mem}(hM:aO P C M w)(hd:distinct k ids=true)(Dt:rnM k ids (firsts M k 0++ids.map (at? M))=some M') :
  aO P (C.rn k ids) M' w∧bGf (rnI k ids) C (C.rn k ids) M M'∧∀ (j:Nat) (o':AO),M'[j]? = some (some o')→∃ i o,nL k ids j=some i∧M[i]? = some (some o)∧mpO (rnI k ids) o=some o':=by
 obtain ⟨g1,g2,g3⟩:=aDi Dt;have hat:∀ (i j:Nat) (o:AO),nL k ids j=some i→((firsts M k 0++ids.map (at? M))[j]? = some (some o)↔M[i]? = some (some o)):=fun i j o hs=>by
  unfold nL at hs
  split at hs
  ·rename_i hj
   cases hs;rw [zP (by rw [mY];exact hj),aJe _ _ _ _ hj,gS,Option.some.injEq,bD]
  ·rename_i hj
   rw [zO (by rw [mY];omega),mY,jU,hs,Option.map_some,Option.some.injEq]
   exact bD
 have hsrc:∀ (j:Nat) (o:AO),(firsts M k 0++ids.map (at? M))[j]? = some (some o)→∃ i,nL k ids j=some i:=fun j o hj=>by
  unfold nL
  split
  ·exact ⟨_,rfl⟩
  ·obtain ⟨hl,_⟩:=Bs.1 hj
   rw [jT,mY,B9] at hl
   exact ⟨_,Av (by omega)⟩
 have h2:∀ (j:Nat) (o':AO),M'[j]? = some (some o')→∃ i o,nL k ids j=some i∧M[i]? = some (some o)∧mpO (rnI k ids) o=some o':=fun j o' hj=>by
  obtain ⟨o,q1,q2⟩:=g2 j o' hj;obtain ⟨i,hi⟩:=hsrc j o q1;exact ⟨i,o,hi,(hat i j o hi).1 q1,q2⟩
 have hi:∀ j i,nL k ids j=some i→(C.rn k ids).ι j=C.ι i∧(C.rn k ids).κ j=C.κ i:=fun j i h=>by simp [Cx.rn,h]
 have hmp:bGf (rnI k ids) C (C.rn k ids) M M':=⟨fun i j o' hf hj=>by
  obtain ⟨i',o,q1,q2,q3⟩:=h2 j o' hj;rw [aLs hf] at q1;cases q1
  exact ⟨o,q2,q3⟩,fun i j o hf ho=>g3 j o ((hat i j o (aLs hf)).2 ho),fun i j hf=>hi j i (aLs hf),fun _ h=>h⟩
 refine ⟨⟨fun j ty n cs h => ?_,fun j ty cs h => ?_,fun j es cl h => ?_,fun j j' o1 o2 b q1 l1 q2 l2 e1 e2 => ?_,fun j o b h hl hb => ?_,hM.Fs,fun j o b h hl hb => ?_⟩,hmp,h2⟩
 ·obtain ⟨i,o,q1,q2,q3⟩:=h2 _ _ h
  rw [lK q3] at q2
  obtain ⟨r1,r2⟩:=hi j i q1;rw [r1,r2];exact hM.row _ _ _ _ q2
 ·obtain ⟨i,o,q1,q2,q3⟩:=h2 _ _ h
  obtain ⟨r1,r2⟩:=hi j i q1;cases o with
  | box Cr l =>
   simp only [mpO,lS] at q3
   obtain ⟨l',Ea,e⟩:=q3;cases e;obtain ⟨b,arr,p0,p1,p2,p3,p4⟩:=hM.box _ _ _ q2;obtain ⟨n1,n2⟩:=fY hmp (w:=w) (us:=fun j=>arr.getD j undef) p3 Ea
   exact ⟨b,arr,by rw [r1];exact p0,p1,by omega,n2,fun j hj=>p4 j (by omega)⟩
  | row=>simp [mpO] at q3
  | mp=>simp [mpO] at q3
  | pk=>simp [mpO] at q3
  | dead=>simp [mpO] at q3
 ·obtain ⟨i,o,q1,q2,q3⟩:=h2 _ _ h
  obtain ⟨r1,r2⟩:=hi j i q1;cases o with
  | mp Cs D1 =>
   simp only [mpO,Option.some.injEq] at q3
   cases q3;obtain ⟨b,arr,p0,p1,p2,p3⟩:=hM.mp _ _ _ q2;exact ⟨b,arr,by rw [r1];exact p0,p1,p2,p3⟩
  | row=>simp [mpO] at q3
  | box=>simp [mpO] at q3
  | pk=>simp [mpO] at q3
  | dead=>simp [mpO] at q3
 ·obtain ⟨i,o,q3,q4,q5⟩:=h2 _ _ q1
  obtain ⟨i',o',q6,q7,q8⟩:=h2 _ _ q2;rw [(hi _ _ q3).1] at e1
  rw [(hi _ _ q6).1] at e2
  have:=hM.inj i i' o o' b q4 (by rw [← bI q5];exact l1) q7 (by rw [← bI q8];exact l2) e1 e2
  subst this;exact bCx hd q3 q6
 ·obtain ⟨i,o',q3,q4,q5⟩:=h2 _ _ h
  rw [(hi _ _ q3).1] at hb
  exact hM.nF i o' b q4 (by rw [← bI q5];exact hl) hb
 ·obtain ⟨i,o',q3,q4,q5⟩:=h2 _ _ h
  rw [(hi _ _ q3).1] at hb
  exact hM.lt i o' b q4 (by rw [← bI q5];exact hl) hb

theorem aVs{k:Nat}{ids:List Nat}{st Am:St}{a:Act}(hk:M0.length≤k)(hp:pick k ids st=some Am)(hs:Sim P C0 M0 w0 st a w):Sim P C0 M0 w0 Am a w:=by
 obtain ⟨C,hS,hM,hF,hD⟩:=hs;unfold pick at hp
 split at hp
 ·rename_i hd
  split at hp
  ·rename_i t ht
   simp only [lS] at hp
   obtain ⟨M',Dt,rfl⟩:=hp;obtain ⟨G4,hmp,h2⟩:=rW hM hd Dt;obtain ⟨t1,t2⟩:=fY hmp (w:=w) (us:=fun i=>a.tmps.getD i undef) hS.rep ht
   have hi:∀ j i,nL k ids j=some i→(C.rn k ids).ι j=C.ι i∧(C.rn k ids).κ j=C.κ i:=fun j i h=>by simp [Cx.rn,h]
   have small:∀ (i:Nat) (o:AO),M0[i]? = some (some o)→nL k ids i=some i∧rnI k ids i=some i:=fun i o h=>by
    obtain ⟨hl,_⟩:=Bs.1 h;have hik:i<k:=by omega
    have hb:Nat.blt i k=true:=by rw [Nat.blt_eq];exact hik
    exact ⟨by simp [nL,hik],by simp only [rnI,hb]⟩
   refine ⟨C.rn k ids,⟨by rw [hS.size];exact t1.symm,t2⟩,G4,
    ⟨hF.os,hF.tape,hF.out,hF.size,hF.keep,fun i o h => ?_,fun i o h ty n cs hx => ?_,fun i o h o' hx hl => ?_,fun j o b h hl hb => ?_,hF.F1,hF.F2⟩,hD.1,fun p hp => ?_,?_⟩
   ·obtain ⟨⟨o',q1⟩,q2,q3⟩:=hF.ids i o h
    obtain ⟨o2,q4,_⟩:=hmp.fw i i o' (small i o h).2 q1;obtain ⟨r1,r2⟩:=hi i i (small i o h).1;exact ⟨⟨o2,q4⟩,r1.trans q2,r2.trans q3⟩
   ·obtain ⟨i',o',q3,q4,q5⟩:=h2 _ _ hx
    rw [(small i o h).1] at q3;cases q3
    rw [lK q5] at q4
    exact hF.row _ _ h _ _ _ q4
   ·obtain ⟨i',o2,q3,q4,q5⟩:=h2 _ _ hx
    rw [(small i o h).1] at q3;cases q3
    exact hF.liv _ _ h _ q4 (by rw [← bI q5];exact hl)
   ·obtain ⟨i,o',q3,q4,q5⟩:=h2 _ _ h
    rw [(hi _ _ q3).1] at hb
    exact hF.new i o' b q4 (by rw [← bI q5];exact hl) hb
   ·obtain ⟨r1,r2,r3,r4,r5⟩:=hD.2.1 p hp
    refine ⟨r1,r2,r3,r4,fun j o h hl hb => ?_⟩
    obtain ⟨i,o',q3,q4,q5⟩:=h2 _ _ h;rw [(hi _ _ q3).1] at hb
    exact r5 i o' q4 (by rw [← bI q5];exact hl) hb
   ·have lv:∀ (j:Nat) (o:AO),M'[j]? = some (some o)→o.live=true→∃ i o',nL k ids j=some i∧st.m[i]? = some (some o')∧o'.live=true:=fun j o h hl=>by
     obtain ⟨i,o',q3,q4,q5⟩:=h2 _ _ h;exact ⟨i,o',q3,q4,by rw [← bI q5];exact hl⟩
    have pk:∀ (j to ti sz:Nat) (L:List (Nat × List PV)),M'[j]? = some (some (.pk to ti sz L))→∃ i,nL k ids j=some i∧st.m[i]? = some (some (.pk to ti sz L)):=fun j to ti sz L h=>by
     obtain ⟨i,o',q3,q4,q5⟩:=h2 _ _ h;refine ⟨i,q3,?_⟩;cases o' with
     | pk=>simp only [mpO,Option.some.injEq] at q5;rw [← q5];exact q4
     | box=>simp [mpO] at q5
     | _=>simp [mpO] at q5
    refine ⟨fun j to ti sz L h => ?_,fun j j' to ti sz Ra Rb Rc L L' h h' hne b hb Ar => ?_⟩
    ·obtain ⟨i,q3,q4⟩:=pk _ _ _ _ _ h
     obtain ⟨p,p0,p1⟩:=hD.2.2.1 _ _ _ _ _ q4;obtain ⟨r1,r2⟩:=hi j i q3;refine ⟨p.move (r1.trans p.io) r2 (fun _ h=>h) (fun _ _=>rfl) fun b hb=>⟨rfl,(p.own b hb).1,fun j2 o2 ho hl => ?_⟩,fun o ho => ?_,by rw [r2];exact p1⟩
     ·obtain ⟨i2,o3,s1,s2,s3⟩:=lv j2 o2 ho hl
      rw [(hi _ _ s1).1];exact (p.own b hb).2 i2 o3 s2 s3
     ·have:=(small j o ho).1
      rw [this] at q3;cases q3
      exact p0 o ho
    ·obtain ⟨i,q3,q4⟩:=pk _ _ _ _ _ h
     obtain ⟨i',Ll,U0⟩:=pk _ _ _ _ _ h';rw [(hi j i q3).2] at hb
     rw [(hi j' i' Ll).2] at Ar
     refine hD.2.2.2 _ _ _ _ _ _ _ _ _ _ q4 U0 (fun e=>hne ?_) b hb Ar
     subst e;exact bCx hd q3 Ll
  ·cases hp
 ·cases hp

def aJf:List Nat→St→Option St
 | [],st=>some st
 | i::r,st=>match Re i st with
  | some Am=>aJf r Am
  | none=>match fzP i st with
   | some Am=>aJf r Am
   | none=>match fzM i st with
    | some Am=>aJf r Am
    | none=>none
def nlC(id off ty:Nat)(st:St):Option St:=match st.m[id]? with
 | some (some (.box bty cs))=>match cs[off]? with
  | some (.p (.v (.slice none 0 0)))=>match Nat.beq ty 99999 with
   | true=>some ⟨st.t,aW st.m id (some (.box bty (cs.set off (.p (.sl 0 [])))))⟩
   | false=>match gJ st.m st.m.length with
    | true=>some ⟨st.t,aW (aW st.m st.m.length (some (.row ty 0 []))) id (some (.box bty (cs.set off (.own st.m.length))))⟩
    | false=>none
  | some (.kb b)=>some ⟨st.t,aW st.m id (some (.box bty (cs.set off (.p (.v (.bool b))))))⟩
  | _=>none
 | _=>none
def nlS(i ty:Nat)(st:St):Option St:=match st.t[i]? with
 | some (.p (.v (.slice none 0 0)))=>match Nat.beq ty 99999 with
  | true=>some ⟨st.t.set i (.p (.sl 0 [])),st.m⟩
  | false=>match gJ st.m st.m.length with
   | true=>some ⟨st.t.set i (.own st.m.length),aW st.m st.m.length (some (.row ty 0 []))⟩
   | false=>none
 | some (.kb b)=>some ⟨st.t.set i (.p (.v (.bool b))),st.m⟩
 | _=>none
def Rf(i ty:Nat)(st:St):Option St:=match Nat.ble 100000 i with
 | true=>nlC ((i-100000) / 1000) ((i-100000) % 1000) ty st
 | false=>match Nat.ble 1000000000 ty with
  | true=>nlP i ((ty-1000000000) / 1000000) ((ty-1000000000) / 100 % 10000) ((ty-1000000000) % 100) st
  | false=>nlS i ty st
def bCy:List (Nat × Nat)→St→Option St
 | [],st=>some st
 | (i,ty)::r,st=>match Rf i ty st with
  | some Am=>bCy r Am
  | none=>none
def gh(k:Nat)(g:Gh)(st:St):Option St:=match aJf g.fz st with
 | some st1=>match bCy g.nl st1 with
  | some st2=>pick k g.ids ⟨forget g.fg st2.t,st2.m⟩
  | none=>none
 | none=>none
theorem aDj(hM:aO P C M w){id bty off:Nat}{cs:List AV}{x:AV}(hb:M[id]? = some (some (.box bty cs)))(hoff:off<cs.length)
  (hx:∀ u,Rep C M w cs[off] u→Rep C (aW M id (some (.box bty (cs.set off x)))) w x u):aO P C (aW M id (some (.box bty (cs.set off x)))) w∧Fr C M w C (aW M id (some (.box bty (cs.set off x)))) w:=by
 have hold:∀ (i:Nat) (o:AO),i≠id→(aW M id (some (.box bty (cs.set off x))))[i]? = some (some o)→M[i]? = some (some o):=fun i o h=>(aP M id i _ o (fun e=>h e.symm)).1
 have hnew:∀ (o:AO),(aW M id (some (.box bty (cs.set off x))))[id]? = some (some o)→o = .box bty (cs.set off x):=fun o h=>by rw [aU] at h;cases h;rfl
 have hliv:∀ (i:Nat) (o:AO),(aW M id (some (.box bty (cs.set off x))))[i]? = some (some o)→o.live=true→∃ o1,M[i]? = some (some o1)∧o1.live=true:=fun i o h hl=>by
  by_cases e:i=id
  ·subst e;exact ⟨_,hb,rfl⟩
  ·exact ⟨o,hold i o e h,hl⟩
 have f:Fr C M w C (aW M id (some (.box bty (cs.set off x)))) w:=by
  refine ⟨rfl,rfl,rfl,dG _,fun _ _ _=>rfl,fun i o h=>⟨?_,rfl,rfl⟩,fun i o h ty n Rh hm => ?_,fun i o h o' h' hl => ?_,fun i o b h hl hbb => ?_,fun b h=>h,fun b h => .inl h⟩
  ·by_cases e:i=id
   ·subst e;exact ⟨_,aU ..⟩
   ·exact ⟨o,(aP M id i _ o (fun e'=>e e'.symm)).2 h⟩
  ·by_cases e:i=id
   ·subst e;cases hnew _ hm
   ·exact ⟨Rh,hold i _ e hm⟩
  ·obtain ⟨o1,q1,q2⟩:=hliv i o' h' hl
   rw [h] at q1;cases q1;exact q2
  ·obtain ⟨o1,q1,q2⟩:=hliv i o h hl
   exact .inr ⟨i,o1,q1,q2,hbb⟩
 have hL:=hM.le f;refine ⟨⟨fun i ty n Rh hm => ?_,fun i ty Rh hm => ?_,fun i es cl hm => ?_,fun i i' o1 o2 b hm hl Dt Ea h1 h2 => ?_,fun i o b hm hl hbb => ?_,hM.Fs,fun i o b hm hl hbb => ?_⟩,f⟩
 ·by_cases e:i=id
  ·subst e;cases hnew _ hm
  ·exact hM.row _ _ _ _ (hold i _ e hm)
 ·by_cases e:i=id
  ·subst e
   cases hnew _ hm;obtain ⟨b,arr,q0,q1,q2,q3,q4⟩:=hM.box _ _ _ hb;refine ⟨b,arr,q0,q1,by simpa using q2,fun j hj => ?_,fun j hj=>q4 j (by simpa using hj)⟩
   rw [xZ]
   split
   ·rename_i e2;subst e2;exact hx _ (q3 _ hoff)
   ·exact (q3 j (by simpa using hj)).mono hL
  ·obtain ⟨b,arr,q0,q1,q2,q3,q4⟩:=hM.box _ _ _ (hold i _ e hm)
   exact ⟨b,arr,q0,q1,q2,fun j hj=>(q3 j hj).mono hL,q4⟩
 ·by_cases e:i=id
  ·subst e;cases hnew _ hm
  ·obtain ⟨b,arr,q0,q1,q2,q3⟩:=hM.mp _ _ _ (hold i _ e hm)
   refine ⟨b,arr,q0,q1,q2,fun j hj => ?_⟩
   obtain ⟨en,r1,r2,r3,r4⟩:=q3 j hj;exact ⟨en,r1,r2,r3,r4.mono hL.F hL.fz⟩
 ·obtain ⟨x1,y1,z1⟩:=hliv i o1 hm hl
  obtain ⟨x2,y2,z2⟩:=hliv i' o2 Dt Ea;exact hM.inj _ _ _ _ _ y1 z1 y2 z2 h1 h2
 ·obtain ⟨x1,y1,z1⟩:=hliv i o hm hl
  exact hM.nF _ _ _ y1 z1 hbb
 ·obtain ⟨x1,y1,z1⟩:=hliv i o hm hl
  exact hM.lt _ _ _ y1 z1 hbb
theorem bGg{id off ty:Nat}{st Am:St}{a:Act}(h:nlC id off ty st=some Am)(hs:Sim P C0 M0 w0 st a w):Sim P C0 M0 w0 Am a w:=by
 obtain ⟨C,hS,hM,hF,hD⟩:=hs;unfold nlC at h
 split at h
 ·rename_i bty cs hi
  split at h
  ·rename_i hc
   split at h
   ·cases h
    obtain ⟨hoff,hcv⟩:=Bs.1 hc;obtain ⟨I9,f2⟩:=aDj hM hi hoff (x := .p (.sl 0 [])) (fun u hu=>by
     rw [hcv] at hu
     cases hu with
     | p _ _ h =>
      cases h;exact .p _ _ (.sl 0 [] none 0 (fun _=>undef) (dG _) (Nat.zero_le _) (fun i hi=>by simp at hi) (fun i hi=>by simp at hi) (fun i hi=>by simp at hi)))
    exact ⟨C,hS.le (hM.le f2),I9,hF.trans f2,hD.fr hM (gO rfl) f2⟩
   ·split at h
    ·rename_i hb
     cases h;have hf:=cM hb;have f:=xN (C:=C) (w:=w) (ty:=ty) hf;have Ca:=xO (ty:=ty) hM hf;have hne:id≠st.m.length:=fun e=>hf _ (e ▸ hi)
     have Lm:(aW st.m st.m.length (some (.row ty 0 [])))[id]? = some (some (.box bty cs)):=(aP st.m st.m.length id _ _ (fun e=>hne e.symm)).2 hi
     obtain ⟨hoff,hcv⟩:=Bs.1 hc;have hnw:(aW (aW st.m st.m.length (some (.row ty 0 []))) id (some (.box bty (cs.set off (.own st.m.length)))))[st.m.length]? = some (some (.row ty 0 [])):=(aP _ id st.m.length _ _ hne).2 (aU ..);obtain ⟨I9,f2⟩:=aDj Ca Lm hoff (x := .own st.m.length) (fun u hu=>by
      rw [hcv] at hu
      cases hu with
      | p _ _ h =>
       cases h;exact .own _ _ rfl ⟨_,hnw⟩ fun ty n cs h=>by rw [hnw] at h;cases h;exact .inl ⟨rfl,by simp [Cx.nil],rfl⟩)
     exact ⟨C.nil st.m.length,(hS.le (hM.le f)).le (Ca.le f2),I9,(hF.trans f).trans f2,hD.fr hM ((gO rfl).trans (gO rfl)) (f.trans f2)⟩
    ·cases h
  ·rename_i b hc
   cases h;obtain ⟨hoff,hcv⟩:=Bs.1 hc;obtain ⟨I9,f2⟩:=aDj hM hi hoff (x := .p (.v (.bool b))) (fun u hu=>by
    rw [hcv] at hu
    cases hu;exact .p _ _ (.v _))
   exact ⟨C,hS.le (hM.le f2),I9,hF.trans f2,hD.fr hM (gO rfl) f2⟩
  ·cases h
 ·cases h
theorem bGh{i ty:Nat}{st Am:St}{a:Act}(h:nlS i ty st=some Am)(hs:Sim P C0 M0 w0 st a w):Sim P C0 M0 w0 Am a w:=by
 obtain ⟨C,hS,hM,hF,hD⟩:=hs;unfold nlS at h
 split at h
 ·rename_i hi
  split at h
  ·cases h
   refine ⟨C,⟨by simpa using hS.size,fun j hj => ?_⟩,hM,hF,hD⟩
   simp only [zS] at hj
   rw [xZ]
   split
   ·rename_i e
    subst e;have hr:=hS.at hi
    generalize a.tmps.getD i undef=u at hr ⊢
    cases hr with
    | p _ _ h =>
     cases h;exact .p _ _ (.sl 0 [] none 0 (fun _=>undef) (dG _) (Nat.zero_le _) (fun i hi=>by simp at hi) (fun i hi=>by simp at hi) (fun i hi=>by simp at hi))
   ·exact hS.rep j hj
  ·split at h
   ·rename_i hb
    cases h;have hf:=cM hb;have f:=xN (C:=C) (w:=w) (ty:=ty) hf;have hL:=hM.le f;refine ⟨C.nil st.m.length,⟨by simpa using hS.size,fun j hj => ?_⟩,xO hM hf,hF.trans f,hD.fr hM (gO rfl) f⟩
    simp only [zS] at hj
    rw [xZ]
    split
    ·rename_i e
     subst e;have hr:=hS.at hi
     generalize a.tmps.getD i undef=u at hr ⊢
     cases hr with
     | p _ _ h =>
      cases h;exact .own _ _ rfl ⟨_,aU ..⟩ fun ty n cs h=>by rw [aU] at h;cases h;exact .inl ⟨rfl,by simp [Cx.nil],rfl⟩
    ·exact (hS.rep j hj).mono hL
   ·cases h
 ·rename_i b hi
  cases h;refine ⟨C,⟨by simpa using hS.size,fun j hj => ?_⟩,hM,hF,hD⟩
  simp only [zS] at hj
  rw [xZ]
  split
  ·rename_i e
   subst e;have hr:=hS.at hi
   generalize a.tmps.getD i undef=u at hr ⊢
   cases hr;exact .p _ _ (.v _)
  ·exact hS.rep j hj
 ·cases h
theorem bGi{i ty:Nat}{st Am:St}{a:Act}(h:Rf i ty st=some Am)(hs:Sim P C0 M0 w0 st a w):Sim P C0 M0 w0 Am a w:=by
 unfold Rf at h
 split at h
 ·exact bGg h hs
 ·split at h
  ·exact bGn h hs
  ·exact bGh h hs
theorem aAz:∀ (l:List (Nat × Nat)) {st Am:St} {a:Act},bCy l st=some Am→Sim P C0 M0 w0 st a w→Sim P C0 M0 w0 Am a w
 | [],st,Am,a,h,hs=>by cases h;exact hs
 | (i,ty)::r,st,Am,a,h,hs=>by
  unfold bCy at h
  split at h
  ·rename_i h1
   exact aAz r h (bGi h1 hs)
  ·cases h
theorem nO:∀ (l:List Nat) {st Am:St} {a:Act},aJf l st=some Am→Sim P C0 M0 w0 st a w→Sim P C0 M0 w0 Am a w
 | [],st,Am,a,h,hs=>by cases h;exact hs
 | i::r,st,Am,a,h,hs=>by
  unfold aJf at h
  split at h
  ·rename_i h1
   exact nO r h (bGo h1 hs)
  ·split at h
   ·rename_i h1
    exact nO r h (bGm h1 hs)
   ·split at h
    ·rename_i h1
     exact nO r h (bGl h1 hs)
    ·cases h
theorem fD{k:Nat}{g:Gh}{st Am:St}{a:Act}(hk:M0.length≤k)(h:gh k g st=some Am)(hs:Sim P C0 M0 w0 st a w):Sim P C0 M0 w0 Am a w:=by
 unfold gh at h
 split at h
 ·rename_i h1
  split at h
  ·rename_i h2
   exact aVs hk h (aLt g.fg (aAz _ h2 (nO _ h1 hs)))
  ·cases h
 ·cases h
end
section
variable {P:Program} {T:TT} {E:Env} {C C0:Cx} {M M0:Mem} {w w0:World}

theorem bPv(hM:aO P C M w){w1:World}(hw:w1.heap=w.heap):aO P C M w1∧Le C C M M w w1:=by
 have hL:Le C C M M w w1:=⟨fun _ o h=>⟨o,h⟩,fun _ _ _ _ _ cs h=>⟨cs,h⟩,fun _ o h o' h' hl=>by rw [h] at h';cases h';exact ⟨hl,rfl,rfl⟩,fun _ h=>h,fun _ _=>by rw [hw]⟩
 have hsz:w1.heap.size=w.heap.size:=by rw [hw]
 refine ⟨⟨fun i Cr n cs hm => ?_,fun i Cr cs hm => ?_,fun i es cl hm => ?_,hM.inj,hM.nF,fun b hb=>by rw [hsz];exact hM.Fs b hb,fun i x b hm hl hb=>by rw [hsz];exact hM.lt i x b hm hl hb⟩,hL⟩
 ·rcases hM.row _ _ _ _ hm with h4 | ⟨b,arr,inf,q0,q1,q2,q3,q4,q5,q6,q7,q8⟩
  ·exact .inl h4
  ·exact .inr ⟨b,arr,inf,q0,by rw [hw];exact q1,q2,q3,q4,q5,q6,fun j hj=>(q7 j hj).mono hL.F hL.fz,q8⟩
 ·obtain ⟨b,arr,q0,q1,q2,q3,q4⟩:=hM.box _ _ _ hm
  exact ⟨b,arr,q0,by rw [hw];exact q1,q2,fun j hj=>(q3 j hj).mono hL,q4⟩
 ·obtain ⟨b,arr,q0,q1,q2,q3⟩:=hM.mp _ _ _ hm
  refine ⟨b,arr,q0,by rw [hw];exact q1,q2,fun j hj => ?_⟩
  obtain ⟨en,r1,r2,r3,r4⟩:=q3 j hj;exact ⟨en,r1,r2,r3,r4.mono hL.F hL.fz⟩
theorem bCw{w1:World}(hw:w1.heap=w.heap)(ho:w1.os=w.os)(ht:w1.tape=w.tape)(hu:w1.output=w.output):Fr C M w C M w1 :=
 ⟨ho,ht,hu,by rw [hw];exact dG _,fun b _ _=>by rw [hw],fun _ x h=>⟨⟨x,h⟩,rfl,rfl⟩,fun _ _ _ _ _ cs h=>⟨cs,h⟩,fun _ o h o' h' hl=>by rw [h] at h';cases h';exact hl,fun i x _ h hl hb => .inr ⟨i,x,h,hl,hb⟩,fun _ h=>h,fun _ h => .inl h⟩

theorem Sim.drawn{st:St}{a:Act}(h:Sim P C0 M0 w0 st a w)(k:Nat):Sim P C0 M0 w0 st a { w with drawn:=k }:=by
 obtain ⟨C,hS,hM,hF,hD⟩:=h;obtain ⟨m,l⟩:=bPv hM (w1:={ w with drawn:=k }) rfl
 exact ⟨C,hS.le l,m,hF.trans (bCw rfl rfl rfl rfl),hD.fr hM .refl (bCw rfl rfl rfl rfl)⟩

def bWv(ops:Array Oper)(k:Nat)(o:Oper):List Oper→Bool
 | []=>true
 | y::r=>(o.apart ops y || y.after.toList.any fun e=>Region.binds .any e && e.on == k) && bWv ops k o r
def bWw(ops:Array Oper):Nat→List Oper→Bool
 | _,[]=>true
 | k,o::r=>(o.after.toList.all fun e => !Region.binds .any e || Nat.blt e.on k) && bWv ops k o r && bWw ops (k+1) r
def cEf(ops:Array Oper):Bool:=Region.noSelect ops && bWw ops 0 ops.toList
theorem aJa{ops:Array Oper}{k:Nat}{o:Oper}:∀ {r:List Oper},bWv ops k o r=true→∀ y∈r,(y.after.any fun e=>Region.binds .any e && e.on == k)=true∨o.apart ops y=true
 | [],_,y,hy=>by cases hy
 | z::r,h,y,hy=>by
  unfold bWv at h
  rw [Cc,aMq] at h
  rcases gK.1 hy with rfl | hy
  ·rcases h.1 with h1 | h1
   ·exact .inr h1
   ·rw [Array.any_toList] at h1;exact .inl h1
  ·exact aJa h.2 y hy
theorem aJb{ops:Array Oper}:∀ (r:List Oper) (k:Nat) (listed:Array Bool),ops.toList.drop k=r→k+r.length=ops.size→listed.size=ops.size→(∀ j,j<ops.size→listed[j]? = some (decide (j<k))) →
  bWw ops k r=true→Region.lexFrom .any ops r.length k listed=true
 | [],k,listed,hd,hk,hz,hl,h=>by
  show (Region.ready .any ops listed).isEmpty=true;unfold Region.ready;rw [List.isEmpty_iff,List.filter_eq_nil_iff];intro i hi;have hi:=lC.1 hi;have h1:listed.getD i true=true:=by
   rw [Bn,hl i hi];have:k=ops.size:=by simpa using hk
   simp;omega
  rw [h1];simp
 | o::r,k,listed,hd,hk,hz,hl,h=>by
  unfold bWw at h
  rw [Cc,Cc] at h
  obtain ⟨⟨h1,h2⟩,h3⟩:=h;rw [nM] at hk
  have hko:ops[k]? = some o:=by
   have:(ops.toList.drop k)[0]? = some o:=by rw [hd];rfl
   rw [List.getElem?_drop] at this
   simpa using this
  have hdr:ops.toList.drop (k+1)=r:=by
   have:=congrArg List.tail hd;rw [List.tail_drop] at this
   exact this
  have hlk:listed.getD k true=false:=by
   rw [Bn,hl k (by omega)];simp
  show ((Region.ready .any ops listed).contains k && Region.free .any ops listed k && Region.lexFrom .any ops r.length (k+1) (listed.setIfInBounds k true))=true;rw [Cc,Cc];refine ⟨⟨?_,?_⟩,?_⟩
  ·rw [List.contains_iff_mem]
   unfold Region.ready;rw [qR];refine ⟨lC.2 (by omega),?_⟩
   rw [hlk,hko];show (!false && o.after.all fun e => !Region.binds .any e || listed.getD e.on false)=true
   rw [Bool.not_false,iW,← Array.all_toList,gC];intro e he;have:=gC.1 h1 e he;rw [aMq] at this ⊢
   rcases this with q | q
   ·exact .inl q
   ·have q:e.on<k:=by simpa using q
    refine .inr ?_;rw [Bn,hl e.on (by omega)]
    simp [q]
  ·unfold Region.free
   rw [hko];show ((List.range ops.size).all _)=true;rw [gC];intro j hj;have hj:=lC.1 hj
   rcases Nat.lt_trichotomy j k with q | q | q
   ·have:listed.getD j true=true:=by rw [Bn,hl j hj];simp [q]
    rw [this];simp
   ·subst q;simp
   ·obtain ⟨y,hy⟩:∃ y,ops[j]? = some y:=⟨_,qQ hj⟩
    rw [hy];have hm:y∈r:=by
     rw [← hdr];have:(ops.toList.drop (k+1))[j-(k+1)]? = some y:=by
      rw [List.getElem?_drop,show k+1+(j-(k+1))=j by omega]
      simpa using hy
     exact Bp this
    have:=aJa h2 y hm;show (j == k || listed.getD j true || ((y.after.any fun e=>Region.binds .any e && e.on == k) || o.apart ops y))=true
    rw [aMq,aMq (_) (o.apart ops y)];exact .inr this
  ·refine aJb r (k+1) _ hdr (by omega) (by rw [Array.size_setIfInBounds];exact hz) (fun j hj => ?_) h3
   rw [Array.getElem?_setIfInBounds]
   by_cases q:k=j
   ·subst q
    rw [if_pos rfl,if_pos (by omega)];simp
   ·rw [if_neg q,hl j hj]
    congr 1
    rw [decide_eq_decide];omega
theorem aJc{ops:Array Oper}(h:cEf ops=true):Region.lexB .any ops=true:=by
 unfold cEf at h
 rw [Cc] at h
 unfold Region.lexB;rw [Cc];refine ⟨h.1,?_⟩;have:=aJb ops.toList 0 (Array.replicate ops.size false) rfl (by simp) (by simp) (fun j hj=>by simp [hj]) h.2
 simpa using this
def bGd(P:Program)(T:TT)(E:Env)(ops:Array Oper)(draw:Bool)(st:St):Ask St:=match draw with
 | false=>bHg P T E ops.toList ops.toList st
 | true=>do
  lift (if cEf ops then some () else none)
  let r ← aVu P T E ops.toList ops.toList st.m.length st
  lift (if aLw ops 0 r.1 then some () else none)
  pure r.2

def Ex.toExit:Ex→Exit
 | .normal => .normal
 | .ret => .ret
 | .exit id => .exit id

def aJd(body:St→Ask (Ex × St)):Nat→St→Ask (Ex × St)
 | 0,_=>fail
 | n+1,st=>do
  let r ← body st
  match r.1 with
  | .normal=>aJd body n r.2
  | e=>pure (e,r.2)

def bWx:Op→Bool
 | .makeMap _ _=>true
 | .lookup _ _ _ _=>true
 | .mapUpdate _ _ _ _=>true
 | _=>false
def nrf:Code→Bool
 | .region _ ops _=>ops.toList.all fun o => !bWx o.op
 | .seq a b=>nrf a && nrf b
 | .cond _ a b=>nrf a && nrf b
 | .block _ b=>nrf b
 | .loop b=>nrf b
 | .scope b=>nrf b
 | .rangeFunc _ _ _ _=>false
 | _=>true
def lY(ro:Option Nat)(c:Code):Prop:=ro=none∨nrf c=true
section
variable {ro:Option Nat} {a b:Code} {x:Operand} {id:Nat}
theorem lY.seq1(h:lY ro (.seq a b)):lY ro a:=h.imp (fun h=>h) fun h=>by unfold nrf at h;rw [Cc] at h;exact h.1
theorem lY.seq2(h:lY ro (.seq a b)):lY ro b:=h.imp (fun h=>h) fun h=>by unfold nrf at h;rw [Cc] at h;exact h.2
theorem lY.cond1(h:lY ro (.cond x a b)):lY ro a:=h.imp (fun h=>h) fun h=>by unfold nrf at h;rw [Cc] at h;exact h.1
theorem lY.cond2(h:lY ro (.cond x a b)):lY ro b:=h.imp (fun h=>h) fun h=>by unfold nrf at h;rw [Cc] at h;exact h.2
theorem lY.block(h:lY ro (.block id b)):lY ro b:=h
theorem lY.loop(h:lY ro (.loop b)):lY ro b:=h
theorem lY.scope(h:lY ro (.scope b)):lY ro b:=h
end

def aB(P:Program)(k:Nat)(c:Code)(st:St)(e:Ex)(Am:St):Prop:=∀ (C0:Cx) (M0:Mem) (w0:World) (a:Act) (w:World),M0.length≤k→Sim P C0 M0 w0 st a w→∀ (ro:Option Nat),lY ro c→∀ (n:Nat),c.wpIn (Fen ro) n P (fun e' a' w'=>e'=e.toExit∧Sim P C0 M0 w0 Am a' w') a w

def aHo(P:Program)(k:Nat)(c:Code)(m:St→Ask (Ex × St))(st:St):Ask (Ex × St):=fun s=>match s.auto with
 | true=>m st s
 | false=>match s.o with
  | .k 0 g e Am::r=>match gh k g st with
   | some st1=>some ((e,Am),{ s with o:=r,obs:=aB P k c st1 e Am::s.obs })
   | none=>none
  | .k (n+1) g e Am::r=>m st { s with o := .k n g e Am::r }
  | .g 0 g::r=>match gh k g st with
   | some st1=>m st1 { s with o:=r }
   | none=>none
  | .g (n+1) g::r=>m st { s with o := .g n g::r }
  | _=>m st s
def rV{α:Type}(m:Ask α):Ask α:=fun s=>match s.auto with
 | true=>m s
 | false=>none

def aCb(P:Program)(T:TT)(E:Env)(k fuel:Nat):Code→St→Ask (Ex × St)
 | .skip,st=>pure (.normal,st)
 | .region id ops d,st=>aHo P k (.region id ops d) (fun st=>do let Am ← bGd P T E ops d st;pure (.normal,Am)) st
 | .seq a b,st=>aHo P k (.seq a b) (fun st=>do
  let r ← aCb P T E k fuel a st
  match r.1 with
  | .normal=>aCb P T E k fuel b r.2
  | e=>pure (e,r.2)) st
 | .cond c a b,st=>aHo P k (.cond c a b) (fun st=>do
  let x ← lift (ev st c)
  let d ← aWx x
  match d with
  | true=>aCb P T E k fuel a st
  | false=>aCb P T E k fuel b st) st
 | .block id b,st=>aHo P k (.block id b) (fun st=>do
  let r ← aCb P T E k fuel b st
  match r.1 with
  | .exit i=>match Nat.beq i id with
   | true=>pure (.normal,r.2)
   | false=>pure (.exit i,r.2)
  | e=>pure (e,r.2)) st
 | .loop b,st=>aHo P k (.loop b) (fun st=>rV (aJd (fun st=>aCb P T E k fuel b st) fuel st)) st
 | .exit id,st=>pure (.exit id,st)
 | .label _,st=>pure (.normal,st)
 | .scope b,st=>aCb P T E k fuel b st
 | .ret,st=>pure (.ret,st)
 | c,st=>aHo P k c (fun _=>fail) st

theorem aB.pre{k:Nat}{c:Code}{st st1 Am:St}{e:Ex}{g:Gh}(hg:gh k g st=some st1)(h:aB P k c st1 e Am):aB P k c st e Am:=fun C0 M0 w0 a w hk hs ro hro n=>h C0 M0 w0 a w hk (fD hk hg hs) ro hro n
theorem aB.post{k:Nat}{c:Code}{st st1 Am:St}{e:Ex}{g:Gh}(hg:gh k g st1=some Am)(h:aB P k c st e st1):aB P k c st e Am:=fun C0 M0 w0 a w hk hs ro hro n=>wpIn_mono (h C0 M0 w0 a w hk hs ro hro n) (fun _ _ _ hq=>⟨hq.1,fD hk hg hq.2⟩)
theorem kW{k:Nat}{c:Code}{m:St→Ask (Ex × St)}(hm:∀ {st Am:St} {e:Ex} {s s':AS},m st s=some ((e,Am),s')→aY s'→aB P k c st e Am){st Am:St}{e:Ex}{s s':AS}(h:aHo P k c m st s=some ((e,Am),s'))(g:aY s'):aB P k c st e Am:=by
 unfold aHo at h
 cases ha:s.auto with
 | true=>rw [ha] at h;exact hm h g
 | false =>
  rw [ha] at h
  dsimp only at h
  split at h
  ·split at h
   ·rename_i hg
    cases h;exact (g.tail.1).pre hg
   ·cases h
  ·exact hm h g
  ·split at h
   ·rename_i hg
    exact (hm h g).pre hg
   ·cases h
  ·exact hm h g
  ·exact hm h g
theorem mQ{k:Nat}{c:Code}{m:St→Ask (Ex × St)}(hm:∀ st,bS (m st))(st:St):bS (aHo P k c m st):=fun s r s' h p hp=>by
 unfold aHo at h
 cases ha:s.auto with
 | true=>rw [ha] at h;exact hm _ _ _ _ h p hp
 | false =>
  rw [ha] at h
  dsimp only at h
  split at h
  ·split at h
   ·cases h;exact Cj _ hp
   ·cases h
  ·exact hm _ _ _ _ h p hp
  ·split at h
   ·exact hm _ _ _ _ h p hp
   ·cases h
  ·exact hm _ _ _ _ h p hp
  ·exact hm _ _ _ _ h p hp
theorem bGe{α:Type}{m:Ask α}(hm:bS m):bS (rV m):=fun s r s' h p hp=>by
 unfold rV at h
 split at h
 ·exact hm _ _ _ h p hp
 ·cases h
theorem bPw{α:Type}{m:Ask α}{s s':AS}{r:α}(h:rV m s=some (r,s')):m s=some (r,s'):=by
 unfold rV at h
 split at h
 ·exact h
 ·cases h

theorem aVq(hT:∀ t i,T t=some i→cB P t=some i)(hE:nA P E)(hm:P.follows .mixedOrders=true){id:Nat}{ops:Array Oper}{d:Bool}{st Am:St}{s s':AS}(h:bGd P T E ops d st s=some (Am,s'))(g:aY s'){k:Nat}:aB P k (.region id ops d) st .normal Am:=by
 intro C0 M0 w0 a w _ hs ro hro n;cases d with
 | false =>
  refine wpIn_region ?_;have:=vT hT hE ops.toList 0 (fun j=>by simp) h g C0 M0 w0 a w hs ro n (fun e' a' w'=>e'=Ex.normal.toExit∧Sim P C0 M0 w0 Am a' w') (fun a' w' h'=>⟨rfl,h'⟩)
  simpa using this
 | true =>
  obtain ⟨_,s1,h1,k1⟩:=aD h;obtain ⟨e1,rfl⟩:=aH h1;obtain ⟨r,s2,h2,k2⟩:=aD k1;obtain ⟨_,s3,h3,k3⟩:=aD k2;obtain ⟨e3,rfl⟩:=aH h3;obtain ⟨rfl,rfl⟩:=aK k3;obtain ⟨hB,_⟩:=bL e1;obtain ⟨hA,_⟩:=bL e3;obtain ⟨os,hfts,hlex⟩:=xC ops.toList _ (fts:=r.1) (fin:=r.2) h2 g
  replace hB:=aJc hB
  unfold Region.lexB at hB
  rw [Cc] at hB
  have hlen:os.length=ops.toList.length:=by
   have:∀ {l:List Oper} {id:Nat} {st:St} {os:List zF} {fin:St},aVv P T E ops.toList id l st os fin→os.length=l.length:=by
    intro l
    induction l with
    | nil=>intro id st os fin h;cases h;rfl
    | cons o l ih=>intro id st os fin h;cases h with | cons _ _ _ _ q os _ h hr=>simp [ih hr]
   exact this hlex
  have key:rY P T E ops.toList st.m.length (fun k=>os.getD k (.any,[],none)) r.2 ops.toList.length (Array.replicate ops.size false) st:=by
   refine rY.lex ops.toList 0 _ st os (fun j=>by simp) (fun j q hj=>by simp [Bw,hj]) (fun j hj=>absurd hj (bRe _)) (fun j oj hj hl => ?_) (fun i j _ hij hj => ?_) (by simpa using hB.2) (by simpa [ido] using hlex)
   ·exfalso
    rcases Nat.lt_or_ge j ops.size with h' | h'
    ·simp [h'] at hl
    ·simp [Nat.not_lt.2 h'] at hl
   have Ec:j<os.length:=by
    rw [hlen];obtain ⟨o,ho⟩:=Option.isSome_iff_exists.1 hj;exact (Bs.1 ho).1
   have:=rZ r.1 0 hA i j (aLu os[i]) (aLu os[j]) hij (by rw [hfts,jU,Av (by omega)];rfl) (by rw [hfts,jU,Av Ec];rfl)
   rw [gS,gS] at this
   simp only [Bw,Av Ec,Av (show i<os.length by omega),Option.getD_some,Array.toArray_toList]
   exact this
  refine wpIn_region_any hm ?_;have:=rY.sound hT hE (C0:=C0) (M0:=M0) (w0:=w0) (ro:=ro) (n:=n) (Q:=fun e' a' w'=>e'=Ex.normal.toExit∧Sim P C0 M0 w0 r.2 a' w') (fun a' w' h'=>⟨rfl,h'⟩) _ _ _ a _ key (hs.drawn (w.drawn+1))
  simpa using this

theorem jM{b:Frame}{a:Act}{k:List Item}{cs:List Frame}{c:Code}:step P (lone (b.atR a (.code (.scope c)::k)) cs w) = .next (lone (b.atR a (.code c :: .inScope c::k)) cs w) :=
 step_lone_go (by simp [stepG,stepG.exec,Frame.atR])
theorem aHp{b:Frame}{a:Act}{k:List Item}{cs:List Frame}{c:Code}:step P (lone (b.atR a (.inScope c::k)) cs w) = .next (lone (b.atR a k) cs w) :=
 step_lone_go (by simp [stepG,stepG.exec,Frame.atR])
theorem aVr{F:Fence}{n:Nat}{c:Code}{Q:Exit→Act→World→Prop}{a:Act}(h:c.wpIn F n P (fun e a w=>(∀ l,e ≠ .goto l)∧Q e a w) a w):(Code.scope c).wpIn F n P Q a w:=by
 intro b k cs hro hb hr;have h0:(lone (b.atR a (.code (.scope c)::k)) cs w).fenced P F:=fenced_calm hb hr rfl;obtain ⟨e,a₁,w₁,⟨hg,hq⟩,harr⟩:=h b (.inScope c::k) cs hro hb hr;cases e with
 | normal=>exact ⟨.normal,a₁,w₁,hq,.head h0 jM (StepsIn.trans harr (.one (fenced_calm hb hr rfl) aHp))⟩
 | exit id =>
  have hx:exitTo id (.inScope c::k)=exitTo id k:=by simp [exitTo]
  exact ⟨.exit id,a₁,w₁,hq,fun k' hk => .head h0 jM (harr.1 k' (by rw [hx];exact hk)),
   fun Ha hk=>let ⟨k₁,h1,h2⟩:=harr.2 Ha (by rw [hx];exact hk);⟨k₁,h1,.head h0 jM h2⟩⟩
 | goto l=>exact absurd rfl (hg l)
 | ret=>exact ⟨_,a₁,w₁,hq,.of_steps (.one h0 jM) harr⟩
 | panic ch=>exact ⟨_,a₁,w₁,hq,.of_steps (.one h0 jM) harr⟩
 | outgrown=>exact ⟨_,a₁,w₁,hq,.of_steps (.one h0 jM) harr⟩

def LoopIn(F:Fence)(n:Nat)(P:Program)(c:Code)(Q:Exit→Act→World→Prop)(a:Act)(w:World):Prop :=
 ∀ (b:Frame) (k:List Item) (cs:List Frame),b.roundOf=F.round→F.fn b.fn→F.room (cs.length+1+n) →
  ∃ e a' w',Q e a' w'∧ArrivesIn (Machine.fenced P F) P (lone (b.atR a (.code c :: .inLoop c::k)) cs w) b k cs e a' w'

theorem LoopIn.step{F:Fence}{n:Nat}{c:Code}{Q:Exit→Act→World→Prop}{a:Act}(h:c.wpIn F n P (Exit.then (LoopIn F n P c Q) Q) a w):LoopIn F n P c Q a w:=by
 intro b k cs hro hb hr;obtain ⟨e,a₁,w₁,hq,harr⟩:=h b (.inLoop c::k) cs hro hb hr;cases e with
 | normal =>
  obtain ⟨e₂,a₂,w₂,hq₂,harr₂⟩:=hq b k cs hro hb hr;exact ⟨e₂,a₂,w₂,hq₂,.of_steps (StepsIn.trans harr (.one (fenced_calm hb hr rfl) stepR_inLoop)) harr₂⟩
 | exit id=>exact ⟨_,a₁,w₁,hq,.pass (x := .inLoop c) rfl (fun _ _ => .inl (by simp)) harr⟩
 | goto l=>exact ⟨_,a₁,w₁,hq,.pass (x := .inLoop c) rfl (fun _ _ => .inl (by simp)) harr⟩
 | ret=>exact ⟨_,a₁,w₁,hq,.pass (x := .inLoop c) rfl (fun _ _ => .inl (by simp)) harr⟩
 | panic ch=>exact ⟨_,a₁,w₁,hq,.pass (x := .inLoop c) rfl (fun _ _ => .inl (by simp)) harr⟩
 | outgrown=>exact ⟨_,a₁,w₁,hq,.pass (x := .inLoop c) rfl (fun _ _ => .inl (by simp)) harr⟩
theorem LoopIn.wp{F:Fence}{n:Nat}{c:Code}{Q:Exit→Act→World→Prop}{a:Act}(h:LoopIn F n P c Q a w):(Code.loop c).wpIn F n P Q a w:=by
 intro b k cs hro hb hr;obtain ⟨e,a',w',hq,harr⟩:=h b k cs hro hb hr;exact ⟨e,a',w',hq,.of_steps (.one (fenced_calm hb hr rfl) stepR_loop) harr⟩
end
section
variable {P:Program} {T:TT} {E:Env} {C C0:Cx} {M M0:Mem} {w w0:World}

theorem bGc{ops:Array Oper}{d:Bool}{st:St}:bS (bGd P T E ops d st):=by
 unfold bGd;split
 ·exact uB
 ·exact aJ fun _=>bC pK fun _=>aJ fun _=>aM _
theorem vQ{b:St→Ask (Ex × St)}(h:∀ st,bS (b st)):∀ (n:Nat) (st:St),bS (aJd b n st)
 | 0,_=>aR
 | n+1,st=>by
  unfold aJd;refine bC (h st) fun r => ?_
  split
  ·exact vQ h n _
  ·exact aM _
theorem tU{k fuel:Nat}:∀ (c:Code) (st:St),bS (aCb P T E k fuel c st):=by
 intro c
 induction c with
 | skip=>exact fun st=>aM _
 | region id ops d=>exact mQ fun st=>bC bGc fun _=>aM _
 | seq a b iha ihb =>
  refine mQ fun st => ?_
  refine bC (iha st) fun r => ?_
  split
  ·exact ihb _
  ·exact aM _
 | cond c a b iha ihb =>
  refine mQ fun st => ?_
  refine aJ fun _=>bC aWg fun _ => ?_
  split
  ·exact iha _
  ·exact ihb _
 | block id b ih =>
  refine mQ fun st => ?_
  refine bC (ih st) fun r => ?_
  split
  ·split <;> exact aM _
  ·exact aM _
 | loop b ih=>exact mQ fun st=>bGe (vQ ih _ _)
 | exit id=>exact fun st=>aM _
 | label l=>exact fun st=>aM _
 | scope b ih=>exact ih
 | ret=>exact fun st=>aM _
 | _=>exact mQ fun st=>aR

theorem aAy{K:Nat}{c:Code}{b:St→Ask (Ex × St)}(hm:∀ st,bS (b st))(h:∀ {st e Am s s'},b st s=some ((e,Am),s')→aY s'→aB P K c st e Am):∀ (n:Nat) {st:St} {e:Ex} {Am:St} {s s':AS},aJd b n st s=some ((e,Am),s')→aY s' →
  ∀ (C0:Cx) (M0:Mem) (w0:World) (a:Act) (w:World),M0.length≤K→Sim P C0 M0 w0 st a w→∀ (ro:Option Nat),lY ro c→∀ (k:Nat),LoopIn (Fen ro) k P c (fun e' a' w'=>e'=e.toExit∧e' ≠ .normal∧Sim P C0 M0 w0 Am a' w') a w
 | 0,st,e,Am,s,s',h0,_=>(aS h0).elim
 | n+1,st,e,Am,s,s',h0,g=>by
  intro C0 M0 w0 a w hK hs ro hro k;unfold aJd at h0
  obtain ⟨⟨e1,st1⟩,s1,h1,k1⟩:=aD h0;refine LoopIn.step ?_;cases e1 with
  | normal =>
   have g1:=(vQ hm n st1).good k1 g;have ih:=aAy hm h n k1 g C0 M0 w0;refine wpIn_mono (h h1 g1 C0 M0 w0 a w hK hs ro hro k) ?_;rintro e' a' w' ⟨rfl,B3⟩;exact ih a' w' hK B3 ro hro k
  | ret =>
   obtain ⟨he,rfl⟩:=aK k1;cases he;refine wpIn_mono (h h1 g C0 M0 w0 a w hK hs ro hro k) ?_;rintro e' a' w' ⟨rfl,B3⟩;exact ⟨rfl,nofun,B3⟩
  | exit id =>
   obtain ⟨he,rfl⟩:=aK k1;cases he;refine wpIn_mono (h h1 g C0 M0 w0 a w hK hs ro hro k) ?_;rintro e' a' w' ⟨rfl,B3⟩;exact ⟨rfl,nofun,B3⟩

theorem aDh(hT:∀ t i,T t=some i→cB P t=some i)(hE:nA P E)(hm:P.follows .mixedOrders=true){k fuel:Nat}:∀ (c:Code) {st:St} {e:Ex} {Am:St} {s s':AS},aCb P T E k fuel c st s=some ((e,Am),s')→aY s'→aB P k c st e Am:=by
 intro c
 induction c with
 | skip =>
  intro st e Am s s' h g C0 M0 w0 a w hk hs ro hro n;obtain ⟨he,rfl⟩:=aK h;cases he;exact wpIn_skip ⟨rfl,hs⟩
 | region id ops d =>
  intro st e Am s s' h g;refine kW ?_ h g;intro st Am e s s' h g;obtain ⟨st1,s1,h1,k1⟩:=aD h;obtain ⟨he,rfl⟩:=aK k1;cases he;exact aVq hT hE hm h1 g
 | seq a b iha ihb =>
  intro st e Am s s' h g;refine kW ?_ h g;intro st Am e s s' h g C0 M0 w0 ac w hk hs ro hro n;obtain ⟨⟨e1,st1⟩,s1,h1,k1⟩:=aD h;refine wpIn_seq ?_;cases e1 with
  | normal =>
   have g1:=(tU b st1).good k1 g;refine wpIn_mono (iha h1 g1 C0 M0 w0 ac w hk hs ro hro.seq1 n) ?_;rintro e' a' w' ⟨rfl,B3⟩;exact ihb k1 g C0 M0 w0 a' w' hk B3 ro hro.seq2 n
  | ret =>
   obtain ⟨he,rfl⟩:=aK k1;cases he;refine wpIn_mono (iha h1 g C0 M0 w0 ac w hk hs ro hro.seq1 n) ?_;rintro e' a' w' ⟨rfl,B3⟩;exact ⟨rfl,B3⟩
  | exit id =>
   obtain ⟨he,rfl⟩:=aK k1;cases he;refine wpIn_mono (iha h1 g C0 M0 w0 ac w hk hs ro hro.seq1 n) ?_;rintro e' a' w' ⟨rfl,B3⟩;exact ⟨rfl,B3⟩
 | cond c a b iha ihb =>
  intro st e Am s s' h g;refine kW ?_ h g;intro st Am e s s' h g C0 M0 w0 ac w hk hs ro hro n;obtain ⟨x,s1,h1,k1⟩:=aD h;obtain ⟨e1,rfl⟩:=aH h1;obtain ⟨d,s2,h2,k2⟩:=aD k1;have Mj:=hs;obtain ⟨C,hS,_⟩:=Mj;cases d with
  | true =>
   obtain ⟨hb,_⟩:=qL (hS.ev e1) h2 ((tU a st).good k2 g);exact wpIn_cond_true hb (iha k2 g C0 M0 w0 ac w hk hs ro hro.cond1 n)
  | false =>
   obtain ⟨hb,_⟩:=qL (hS.ev e1) h2 ((tU b st).good k2 g);exact wpIn_cond_false hb (ihb k2 g C0 M0 w0 ac w hk hs ro hro.cond2 n)
 | block id b ih =>
  intro st e Am s s' h g;refine kW ?_ h g;intro st Am e s s' h g C0 M0 w0 ac w hk hs ro hro n;obtain ⟨⟨e1,st1⟩,s1,h1,k1⟩:=aD h;refine wpIn_block ?_;cases e1 with
  | normal =>
   obtain ⟨he,rfl⟩:=aK k1;cases he;refine wpIn_mono (ih h1 g C0 M0 w0 ac w hk hs ro hro.block n) ?_;rintro e' a' w' ⟨rfl,B3⟩;exact ⟨rfl,B3⟩
  | ret =>
   obtain ⟨he,rfl⟩:=aK k1;cases he;refine wpIn_mono (ih h1 g C0 M0 w0 ac w hk hs ro hro.block n) ?_;rintro e' a' w' ⟨rfl,B3⟩;exact ⟨rfl,B3⟩
  | exit i =>
   dsimp only at k1
   cases hb:Nat.beq i id with
   | true =>
    rw [hb] at k1
    obtain ⟨he,rfl⟩:=aK k1;cases he;have hid:i=id:=Nat.eq_of_beq_eq_true hb;refine wpIn_mono (ih h1 g C0 M0 w0 ac w hk hs ro hro.block n) ?_;rintro e' a' w' ⟨rfl,B3⟩;simp only [Ex.toExit,Exit.inBlock,hid,if_true];exact ⟨trivial,B3⟩
   | false =>
    rw [hb] at k1
    obtain ⟨he,rfl⟩:=aK k1;cases he;have hid:i≠id:=Nat.ne_of_beq_eq_false hb;refine wpIn_mono (ih h1 g C0 M0 w0 ac w hk hs ro hro.block n) ?_;rintro e' a' w' ⟨rfl,B3⟩;simp only [Ex.toExit,Exit.inBlock,hid,if_false];exact ⟨trivial,B3⟩
 | loop b ih =>
  intro st e Am s s' h g;refine kW ?_ h g;intro st Am e s s' h g C0 M0 w0 ac w hk hs ro hro n;refine wpIn_mono (LoopIn.wp (aAy (tU b) ih fuel (bPw h) g C0 M0 w0 ac w hk hs ro hro.loop n)) ?_;rintro e' a' w' ⟨h1,_,h2⟩;exact ⟨h1,h2⟩
 | exit id =>
  intro st e Am s s' h g C0 M0 w0 a w hk hs ro hro n;obtain ⟨he,rfl⟩:=aK h;cases he;exact wpIn_exit ⟨rfl,hs⟩
 | label l =>
  intro st e Am s s' h g C0 M0 w0 a w hk hs ro hro n;obtain ⟨he,rfl⟩:=aK h;cases he;exact wpIn_label ⟨rfl,hs⟩
 | scope b ih =>
  intro st e Am s s' h g C0 M0 w0 a w hk hs ro hro n;refine aVr (wpIn_mono (ih h g C0 M0 w0 a w hk hs ro hro.scope n) ?_);rintro e' a' w' ⟨rfl,B3⟩;exact ⟨fun l=>by cases e <;> simp [Ex.toExit],rfl,B3⟩
 | ret =>
  intro st e Am s s' h g C0 M0 w0 a w hk hs ro hro n;obtain ⟨he,rfl⟩:=aK h;cases he;exact wpIn_ret ⟨rfl,hs⟩
 | _ =>
  intro st e Am s s' h g;refine kW ?_ h g;intro st Am e s s' h g;exact (aS h).elim
end
section
variable {P:Program} {T:TT} {E:Env} {C C0:Cx} {M M0:Mem} {w w0:World}

def cLy(T:TT)(st:St):ResultVar→Ask AV
 | .tmp t=>lift st.t[t]?
 | .cell a t=>do
  let x ← lift st.t[a]?
  vload T st.m t x
def aVn(T:TT)(st:St):List ResultVar→Ask (List AV)
 | []=>pure []
 | r::l=>do
  let x ← cLy T st r
  let xs ← aVn T st l
  pure (x::xs)
def bPu:List AV→AV
 | [x]=>x
 | l => .tup l

def aIz:Mem→Bool
 | []=>true
 | some (.pk _ _ _ _)::_=>false
 | _::r=>aIz r
theorem pG:∀ {m:Mem},aIz m=true→bGu m
 | [],_,i,o,h=>by simp at h
 | none::r,hm,i,o,h=>by
  cases i with
  | zero=>simp at h
  | succ i=>exact pG (m:=r) hm i o (by simpa using h)
 | some x::r,hm,i,o,h=>by
  cases i with
  | zero =>
   simp at h;subst h
   cases x with
   | pk=>simp [aIz] at hm
   | _=>rfl
  | succ i =>
   refine pG (m:=r) ?_ i o (by simpa using h)
   cases x with
   | pk=>simp [aIz] at hm
   | _=>simpa [aIz] using hm
def aVo(P:Program)(T:TT)(E:Env)(fuel:Nat)(fn:Func)(c:Code)(args:List AV)(m:Mem):Ask (AV × Mem):=do
 lift (if aIz m=true then some () else none)
 let r ← aCb P T E m.length fuel c ⟨args++List.replicate (fn.ntmps-args.length) .any,m⟩
 match r.1 with
 | .exit _=>fail
 | _=>do
  let l ← aVn T r.2 fn.results.toList
  pure (bPu l,r.2.m)

def FMM(P:Program)(f:Nat)(args:List AV)(M:Mem)(r:AV)(M':Mem):Prop :=
 ∀ (C:Cx) (w:World) (us:List Value),cN C M w args us→aO P C M w→∀ n,CallsIn Fence.wide n P f us.toArray w (fun e w'=>∃ u,e = .returned u∧∃ C',Fr C M w C' M' w'∧aO P C' M' w'∧Rep C' M' w' r u)

def vP(P:Program)(f:Nat)(args:List AV)(M:Mem)(r:AV)(M':Mem):Prop :=
 ∀ (C:Cx) (w:World) (us:List Value),cN C M w args us→aO P C M w→∀ n,CallsIn Fence.wide n P f us.toArray w (fun e w'=>∃ u,e = .returned u∧∃ C',Fr C M w C' M' w'∧aO P C' M' w'∧Rep C' M' w' r u∧mZ (C.with []) M M' C' w w')
theorem vP.fmm{f:Nat}{args:List AV}{M M':Mem}{r:AV}(h:vP P f args M r M'):FMM P f args M r M':=fun C w us hus hM n=>(h C w us hus hM n).mono fun _ w' ⟨u,q,C',h1,h2,h3,_⟩=>⟨u,q,C',h1,h2,h3⟩

theorem zE{st:St}:∀ (l:List ResultVar),bS (aVn T st l)
 | []=>aM _
 | r::l=>by
  unfold aVn;refine bC ?_ fun _=>bC (zE l) fun _=>aM _
  cases r with
  | tmp t=>exact mS _
  | cell a t=>exact aJ fun _=>aDw

def aDf(tmps:Array Value):ResultVar→Sem Value
 | .tmp t=>pure (tmps.getD t undef)
 | .cell a t=>do loadVar t (← asAddr (tmps.getD a undef))

theorem bGb{t:Nat}{y x:AV}{u:Value}{s s':AS}(h:vload T M t y s=some (x,s'))(hy:Rep C M w y u):∃ p,u = .pointer (some p):=by
 unfold vload at h
 obtain ⟨i,s1,h1,k1⟩:=aD h
 split at k1
 ·rename_i id off
  obtain ⟨o,s2,h2,k2⟩:=aD k1;obtain ⟨e2,rfl⟩:=aH h2;have hl:o.live=true:=by
   cases o with
   | dead=>exact (aS k2).elim
   | _=>rfl
  obtain ⟨b,hu,_⟩:=gQ hy (jC (dZ e2) hl);exact ⟨_,hu⟩
 ·cases hy;exact ⟨_,rfl⟩
 ·exact (aS k1).elim

theorem aVp(hT:∀ t i,T t=some i→cB P t=some i)(hM:aO P C M w){ts:List AV}{us:Array Value}(hS:eF C M w ts us){r:ResultVar}{x:AV}{s s':AS}(h:cLy T ⟨ts,M⟩ r s=some (x,s'))(g:aY s') :
  ∃ u,(aDf us r).run P w = .ok u w∧Rep C M w x u:=by
 cases r with
 | tmp t =>
  obtain ⟨e1,rfl⟩:=aH h;exact ⟨_,rfl,hS.at e1⟩
 | cell a t =>
  obtain ⟨y,s1,h1,k1⟩:=aD h;obtain ⟨e1,rfl⟩:=aH h1;obtain ⟨_,u,h2,h3⟩:=aBk hT hM (hS.at e1) k1 g
  refine ⟨u,?_,h3⟩;obtain ⟨p,hp⟩:=bGb k1 (hS.at e1)
  unfold Instr.loadAt at h2
  simp only [aDf];rw [hp] at h2 ⊢
  exact h2

theorem aDg(hT:∀ t i,T t=some i→cB P t=some i)(hM:aO P C M w){ts:List AV}{us:Array Value}(hS:eF C M w ts us):∀ (l:List ResultVar) {xs:List AV} {s s':AS},aVn T ⟨ts,M⟩ l s=some (xs,s')→aY s' →
  ∃ vs:List Value,(l.mapM (aDf us)).run P w = .ok vs w∧cN C M w xs vs
 | [],xs,s,s',h,g=>by
  obtain ⟨rfl,rfl⟩:=aK h;exact ⟨[],rfl,.nil⟩
 | r::l,xs,s,s',h,g=>by
  obtain ⟨x,s1,h1,k1⟩:=aD h;obtain ⟨ys,s2,h2,k2⟩:=aD k1;obtain ⟨rfl,rfl⟩:=aK k2;obtain ⟨u,e1,r1⟩:=aVp hT hM hS h1 ((zE l).good h2 g);obtain ⟨vs,e2,r2⟩:=aDg hT hM hS l h2 g;refine ⟨u::vs,?_,.cons _ _ _ _ r1 r2⟩;rw [List.mapM_cons,Sem.run_bind,e1,Result.andThen_ok,Sem.run_bind,e2,Result.andThen_ok,Sem.run_pure]

theorem aPv{fn:Func}{us:Array Value}{vs:List Value}(h:(fn.results.toList.mapM (aDf us)).run P w = .ok vs w):(results fn us).run P w = .ok (if _:vs.length=1 then vs[0] else .tuple vs.toArray) w:=by
 have e:(results fn us)=(do let vs ← fn.results.mapM (aDf us);pure (if h:vs.size=1 then vs[0] else .tuple vs)):=by
  unfold results
  congr 1
 rw [e,Sem.run_bind,Array.mapM_eq_mapM_toList,Sem.run_map,h,Result.andThen_ok,Result.andThen_ok,Sem.run_pure]
 congr 1

theorem bWu{xs:List AV}{vs:List Value}(h:cN C M w xs vs):Rep C M w (bPu xs) (if _:vs.length=1 then vs[0] else .tuple vs.toArray):=by
 have hl:=h.len;cases h with
 | nil=>exact .tup [] _ rfl (fun i h=>by simp at h)
 | cons x u l k hx hr =>
  cases hr with
  | nil=>exact hx
  | cons y v l k hy hr =>
   have hne:¬ (u::v::k).length=1:=by simp
   rw [dif_neg hne];refine .tup _ _ (by simpa using hl) (fun i hi => ?_)
   have:=(cN.cons x u _ _ hx (cN.cons y v l k hy hr)).at i hi
   rwa [← bR] at this

theorem Sim.take{st:St}{a:Act}{d:Deferred}{ds:List Deferred}(h:Sim P C0 M0 w0 st a w)(hd:a.defers=d::ds):∃ D,d=mark D∧w.heap[D]? = some (.deferred (some []))∧Sim P C0 M0 w0 st { a with defers:=ds } (w.putObj D (.deferred none)):=by
 obtain ⟨C,hS,hM,hF,⟨l,h1,h2,h3⟩,hR,hP⟩:=h;rw [hd] at h1
 cases l with
 | nil=>simp at h1
 | cons D l =>
  rw [iB,List.cons.injEq] at h1
  obtain ⟨rfl,rfl⟩:=h1;obtain ⟨q1,q2,q3⟩:=h3 D (by simp)
  obtain ⟨hnd,Q9⟩:=List.nodup_cons.1 h2;have hg:=grownBy_putObj' w D (.deferred none);have hsz:(w.putObj D (.deferred none)).heap.size=w.heap.size:=by simp [World.putObj]
  have hk:∀ b,b≠D→(w.putObj D (.deferred none)).heap[b]? = w.heap[b]? := fun b hb=>by
   rcases Nat.lt_or_ge b w.heap.size with h | h
   ·exact hg.block b h (by simpa using hb)
   ·rw [Array.getElem?_eq_none h,Array.getElem?_eq_none (by omega)]
  have hlive:∀ (id:Nat) (o:AO) (b:Nat),st.m[id]? = some (some o)→o.live=true→C.ι id=some b→b≠D:=fun id o b ho hl hb e=>by
   subst e;exact aQg hM hP ho hl hb q1
  have hL:Le C C st.m st.m w (w.putObj D (.deferred none)):=⟨fun _ o h=>⟨o,h⟩,fun _ _ _ _ _ cs h=>⟨cs,h⟩,fun _ o h o' h' hl=>by rw [h] at h';cases h';exact ⟨hl,rfl,rfl⟩,fun _ h=>h,fun b hb=>hk b fun e=>q3 (e ▸ hb)⟩
  refine ⟨D,rfl,q1,C,hS.le hL,⟨fun i Cr n cs hm => ?_,fun i Cr cs hm => ?_,fun i es cl hm => ?_,hM.inj,hM.nF,fun b hb=>by rw [hsz];exact hM.Fs b hb,fun i x b hm hl hb=>by rw [hsz];exact hM.lt i x b hm hl hb⟩,
   ⟨hg.os.trans hF.os,hg.tape.trans hF.tape,hg.output.trans hF.out,gL hF.size hg.size,fun b hb hn=>(hk b (by omega)).trans (hF.keep b hb hn),hF.ids,hF.row,hF.liv,hF.new,hF.F1,hF.F2⟩,⟨l,rfl,Q9,fun D' Kb => ?_⟩,fun p hp => ?_,fun i to ti sz L hm => ?_,hP.2⟩
  ·rcases hM.row _ _ _ _ hm with h4 | ⟨b,arr,inf,q0,Kc,Kd,Ll,q4,q5,q6,q7,q8⟩
   ·exact .inl h4
   ·exact .inr ⟨b,arr,inf,q0,by rw [hk b (hlive _ _ _ hm rfl q0)];exact Kc,Kd,Ll,q4,q5,q6,fun j hj=>(q7 j hj).mono hL.F hL.fz,q8⟩
  ·obtain ⟨b,arr,q0,Kc,Kd,Ll,q4⟩:=hM.box _ _ _ hm
   exact ⟨b,arr,q0,by rw [hk b (hlive _ _ _ hm rfl q0)];exact Kc,Kd,fun j hj=>(Ll j hj).mono hL,q4⟩
  ·obtain ⟨b,arr,q0,Kc,Kd,Ll⟩:=hM.mp _ _ _ hm
   refine ⟨b,arr,q0,by rw [hk b (hlive _ _ _ hm rfl q0)];exact Kc,Kd,fun j hj => ?_⟩
   obtain ⟨en,r1,r2,r3,r4⟩:=Ll j hj;exact ⟨en,r1,r2,r3,r4.mono hL.F hL.fz⟩
  ·obtain ⟨r1,r2,r3⟩:=h3 D' (Cj _ Kb)
   exact ⟨by rw [hk D' (fun e=>hnd (e ▸ Kb))];exact r1,r2,r3⟩
  ·obtain ⟨r1,r2,r3,r4,r5⟩:=hR p hp
   exact ⟨by rw [hk p.1 (fun e=>r3 (by rw [e,q1] at r1;exact (Option.some.inj r1).symm))];exact r1,r2,r3,r4,r5⟩
  ·obtain ⟨p,p0,p1⟩:=hP.1 _ _ _ _ _ hm
   exact ⟨p.move p.io rfl (fun _ h=>h) hL.fz fun b hb=>⟨hk b (fun e=>by
    obtain ⟨_,arr,ty,r1⟩:=p.lt hb;rw [e,q1] at r1;cases r1),p.own b hb⟩,p0,p1⟩

theorem aAx(hT:∀ t i,T t=some i→cB P t=some i)(hE:nA P E)(hm:P.follows .mixedOrders=true){fuel f:Nat}{fn:Func}{c:Code}(hf:P.funcs[f]? = some fn)(hb:fn.body=some c){args:List AV}{r:AV}{M':Mem}{s s':AS}
  (h:aVo P T E fuel fn c args M s=some ((r,M'),s')) (g:aY s'):vP P f args M r M':=by
 intro C w us hus hM n;unfold aVo at h
 obtain ⟨_,s0,h0,k0⟩:=aD h;obtain ⟨e0,rfl⟩:=aH h0;have hnp:=pG (bL e0).1;obtain ⟨⟨e,st⟩,s1,h1,k1⟩:=aD k0;have hlen:=hus.len;have hS:eF C M w (args++List.replicate (fn.ntmps-args.length) .any) (us.toArray++Array.replicate (fn.ntmps-us.toArray.size) undef):=by
  refine ⟨by simp [hlen],fun i hi => ?_⟩
  by_cases c1:i<args.length
  ·rw [aCf c1,Bn,Array.getElem?_append_left (by simp;omega)]
   have:=hus.at i c1
   rwa [← bR,Bn] at this
  ·rw [aRj (by omega),List.getElem_replicate]
   exact .any _
 have hsim:Sim P (C.with []) M w ⟨args++List.replicate (fn.ntmps-args.length) .any,M⟩ { tmps:=us.toArray++Array.replicate (fn.ntmps-us.toArray.size) undef,defers:=[] } w:=⟨C,hS,hM,(Fr.refl ..).based [],.nil rfl hnp⟩
 refine callsIn_of_wp_marks hf hb trivial ?_;have fin:∀ (e':Exit) (a':Act) (w':World),(e' = .normal∨e' = .ret)→Sim P (C.with []) M w st a' w'→(∃ l s2,aVn T st fn.results.toList s1=some (l,s2)∧aY s2∧r=bPu l∧M'=st.m)→bodyPostM Fence.wide n P fn (fun e w'=>∃ u,e = .returned u∧∃ C',Fr C M w C' M' w'∧aO P C' M' w'∧Rep C' M' w' r u∧mZ (C.with []) M M' C' w w') e' a' w':=by
  rintro e' a' w' he B3 ⟨l,s2,h2,g2,rfl,rfl⟩;have key:∀ (ds:List Deferred) (a':Act) (w':World),a'.defers=ds→Sim P (C.with []) M w st a' w'→LeavesInM Fence.wide n P fn a'.tmps (fun e w'=>∃ u,e = .returned u∧∃ C',Fr C M w C' st.m w'∧aO P C' st.m w'∧Rep C' st.m w' (bPu l) u∧mZ (C.with []) M st.m C' w w') ds .returning w':=by
   intro ds
   induction ds with
   | nil =>
    rintro a' w' hd ⟨C',Uy,G4,Qo,_,_,Uz⟩;obtain ⟨ts,m⟩:=st;obtain ⟨vs,e2,r2⟩:=aDg hT G4 Uy fn.results.toList h2 g2;exact ⟨_,aPv e2,_,rfl,C',Qo.unbased,G4,bWu r2,Uz⟩
   | cons d ds ih =>
    intro a' w' hd B3;obtain ⟨D,rfl,hD,I8⟩:=B3.take hd;exact ⟨by simp,.inl ⟨_,_,rfl,run_takeDeferred hD,ih { a' with defers:=ds } _ rfl I8⟩⟩
  rcases he with rfl | rfl
  ·exact key _ a' w' rfl B3
  ·exact key _ a' w' rfl B3
 have out:(e = .normal∨e = .ret)∧∃ l s2,aVn T st fn.results.toList s1=some (l,s2)∧aY s2∧r=bPu l∧M'=st.m:=by
  cases e with
  | exit id=>exact (aS k1).elim
  | normal =>
   obtain ⟨l,s2,h2,k2⟩:=aD k1;obtain ⟨he,rfl⟩:=aK k2;cases he;exact ⟨.inl rfl,l,_,h2,g,rfl,rfl⟩
  | ret =>
   obtain ⟨l,s2,h2,k2⟩:=aD k1;obtain ⟨he,rfl⟩:=aK k2;cases he;exact ⟨.inr rfl,l,_,h2,g,rfl,rfl⟩
 obtain ⟨he,l,s2,h2,g2,e3,e4⟩:=out;have g1:=(zE _).good h2 g2;refine wpIn_mono (aDh hT hE hm c h1 g1 (C.with []) M w _ w (dG _) hsim none (.inl rfl) n) ?_
 rintro e' a' w' ⟨rfl,B3⟩;exact fin _ a' w' (by rcases he with rfl | rfl <;> simp [Ex.toExit]) B3 ⟨l,s2,h2,g2,e3,e4⟩
end
section
variable {P:Program} {T:TT} {E:Env} {C C0:Cx} {M M0:Mem} {w w0:World}

mutual
def aPu:PV→Bool
 | .v _=>true
 | .sl _ cs=>match cs with
  | []=>true
  | _=>false
 | .agg cs=>aAu cs
 | .mp _=>false
 | .rp _ _=>false
def aAu:List PV→Bool
 | []=>true
 | x::r=>match aPu x with
  | true=>aAu r
  | false=>false
end
mutual
def rig:AV→Bool
 | .p x=>aPu x
 | .kb _=>true
 | .any=>true
 | .yld _=>true
 | .agg cs=>aVm cs
 | .fn _ a b=>match aVm a with
  | true=>aVm b
  | false=>false
 | _=>false
def aVm:List AV→Bool
 | []=>true
 | x::r=>match rig x with
  | true=>aVm r
  | false=>false
end
mutual
def noRef:AV→Bool
 | .p _=>true
 | .kb _=>true
 | .any=>true
 | .yld _=>true
 | .rp _ _=>true
 | .agg cs=>jD cs
 | .fn _ a b=>match jD a with
  | true=>jD b
  | false=>false
 | _=>false
def jD:List AV→Bool
 | []=>true
 | x::r=>match noRef x with
  | true=>jD r
  | false=>false
end

theorem aDe:∀ {l:List PV},aAu l=true→∀ i (h:i<l.length),aPu l[i]=true
 | [],_,i,h=>by simp at h
 | x::r,hr,i,h=>by
  unfold aAu at hr
  split at hr
  ·cases i with
   | zero=>assumption
   | succ i=>exact aDe hr i (by simpa using h)
  ·cases hr
theorem aCm:∀ {l:List AV},aVm l=true→∀ i (h:i<l.length),rig l[i]=true
 | [],_,i,h=>by simp at h
 | x::r,hr,i,h=>by
  unfold aVm at hr
  split at hr
  ·cases i with
   | zero=>assumption
   | succ i=>exact aCm hr i (by simpa using h)
  ·cases hr
theorem pF:∀ {l:List AV},jD l=true→∀ i (h:i<l.length),noRef l[i]=true
 | [],_,i,h=>by simp at h
 | x::r,hr,i,h=>by
  unfold jD at hr
  split at hr
  ·cases i with
   | zero=>assumption
   | succ i=>exact pF hr i (by simpa using h)
  ·cases hr

theorem bQ.rig{F G:Nat→Prop}{w w':World}{x:PV}{u:Value}(h:bQ F w x u)(hr:aPu x=true):bQ G w' x u:=by
 induction h with
 | v x=>exact .v x
 | sl n cs p cap us h1 h2 h3 _ h5 ih =>
  cases cs with
  | nil=>exact .sl n [] p cap us h1 h2 (fun i h=>by simp at h) (fun i h=>by simp at h) (fun i h=>by simp at h)
  | cons=>simp [aPu] at hr
 | agg cs vs h0 h1 _ ih =>
  have Ha:aAu cs=true:=by simpa [aPu] using hr
  exact .agg cs vs h0 h1 fun i hi=>ih i hi (aDe Ha i hi)
 | mp=>simp [aPu] at hr
 | rp=>simp [aPu] at hr

theorem Rep.rig{C C':Cx}{M M':Mem}{w w':World}{x:AV}{u:Value}(h:Rep C M w x u)(hr:rig x=true):Rep C' M' w' x u:=by
 induction h with
 | p x u h=>exact .p x u (h.rig (by simpa [KV.rig] using hr))
 | any u=>exact .any u
 | kb b=>exact .kb b
 | yld l=>exact .yld l
 | agg cs vs h0 h1 _ ih =>
  have Ha:aVm cs=true:=by simpa [KV.rig] using hr
  exact .agg cs vs h0 h1 fun i hi=>ih i hi (aCm Ha i hi)
 | fn f cs ds us vs h1 h2 _ _ J9 Ka =>
  simp only [KV.rig] at hr
  split at hr
  ·rename_i Hl
   exact .fn f cs ds us vs h1 h2 (fun i hi=>J9 i hi (aCm Hl i hi)) (fun i hi=>Ka i hi (aCm hr i hi))
  ·cases hr
 | _=>simp [KV.rig] at hr

theorem Rep.noRef{C C':Cx}{M M':Mem}{w w':World}{x:AV}{u:Value}(h:Rep C M w x u)(hr:noRef x=true)(hF:∀ b,C.F b→C'.F b)(hz:∀ b,C.F b→w'.heap[b]? = w.heap[b]?):Rep C' M' w' x u:=by
 induction h with
 | p x u h=>exact .p x u (h.mono hF hz)
 | any u=>exact .any u
 | kb b=>exact .kb b
 | yld l=>exact .yld l
 | rp cs off b o us h1 h2 h3=>exact .rp cs off b o us (fun i hi=>⟨hF _ (h1 i hi).1,(eG (hz _ (h1 i hi).1) _).trans (h1 i hi).2⟩) (fun i hi=>(h2 i hi).mono hF hz) h3
 | agg cs vs h0 h1 _ ih =>
  have Ha:jD cs=true:=by simpa [KV.noRef] using hr
  exact .agg cs vs h0 h1 fun i hi=>ih i hi (pF Ha i hi)
 | fn f cs ds us vs h1 h2 _ _ J9 Ka =>
  simp only [KV.noRef] at hr
  split at hr
  ·rename_i Hl
   exact .fn f cs ds us vs h1 h2 (fun i hi=>J9 i hi (pF Hl i hi)) (fun i hi=>Ka i hi (pF hr i hi))
  ·cases hr
 | _=>simp [KV.noRef] at hr

def Cx.bare(C:Cx)(G:Nat→Prop):Cx:={ ι:=fun _=>none,κ:=C.κ,F:=G }

section
variable {G:Nat→Prop} (hM:aO P C M w) (hG:∀ b,C.F b→G b) (hO:∀ (id:Nat) (o:AO) (b:Nat),M[id]? = some (some o)→o.live=true→C.ι id=some b→G b)
include hM hG hO

theorem aAv{x:AV}{u:Value}{y:PV}(h:Rep C M w x u)(hv:E1 M x=some y):bQ G w y u:=by
 unfold E1 at hv
 split at hv
 ·cases hv;cases h with | p _ _ h=>exact h.mono hG (fun _ _=>rfl)
 ·cases hv;cases h;exact .v _
 ·split at hv
  ·rename_i id _ r hr
   cases hv;have ho:=dC hr;refine (wA hM ho h).mono (fun b hb => ?_) (fun _ _=>rfl)
   rcases hb with hb | ⟨_,hb⟩
   ·exact hG b hb
   ·exact hO _ _ b ho rfl hb
  ·cases hv
 ·cases hv

theorem aAw:∀ {l:List AV} {us:Nat→Value} {ys:List PV},(∀ i (h:i<l.length),Rep C M w l[i] (us i))→aDz M l=some ys→ys.length=l.length∧∀ i (h:i<ys.length),bQ G w ys[i] (us i)
 | [],_,ys,_,hv=>by cases hv;exact ⟨rfl,fun i h=>by simp at h⟩
 | x::r,us,ys,h,hv=>by
  unfold aDz at hv
  split at hv
  ·rename_i y h1
   split at hv
   ·rename_i l h2
    cases hv;obtain ⟨q1,q2⟩:=aAw (us:=fun i=>us (i+1)) (fun i hi=>h (i+1) (by simpa using hi)) h2
    refine ⟨by simp [q1],fun i hi => ?_⟩
    cases i with
    | zero=>exact aAv hM hG hO (h 0 (by simp)) h1
    | succ i=>exact q2 i (by simpa using hi)
   ·cases hv
  ·cases hv

set_option linter.unusedSectionVars false in
mutual
theorem vO:∀ {x:AV} {u:Value} {y:AV},Rep C M w x u→view M x=some y→Rep (C.bare G) [] w y u
 | .p x,u,y,h,hv=>by
  simp only [view] at hv
  cases hv;cases h with | p _ _ h=>exact .p _ _ (h.mono hG (fun _ _=>rfl))
 | .kb b,u,y,h,hv=>by simp only [view] at hv;cases hv;cases h;exact .kb _
 | .any,u,y,h,hv=>by simp only [view] at hv;cases hv;exact .any _
 | .yld l,u,y,h,hv=>by simp only [view] at hv;cases hv;cases h;exact .yld _
 | .own id,u,y,h,hv=>by
  simp only [view] at hv
  split at hv
  ·rename_i r hr
   cases hv;exact .p _ _ (aAv hM hG hO h (by simp only [E1,hr]))
  ·cases hv
 | .rp cs off,u,y,h,hv=>by
  simp only [view] at hv
  cases hv;cases h with
  | rp _ _ b o us h1 h2 h3=>exact .rp cs off b o us (fun i hi=>⟨hG _ (h1 i hi).1,(h1 i hi).2⟩) (fun i hi=>(h2 i hi).mono hG (fun _ _=>rfl)) h3
 | .ptr id off,u,y,h,hv=>by
  simp only [view] at hv
  split at hv
  ·rename_i ty n cs ho
   cases hv;have ho:=dZ ho;obtain ⟨b,rfl,hb⟩:=gQ h (jC ho rfl)
   rcases hM.row _ _ _ _ ho with ⟨hn,_⟩ | ⟨b',arr,inf,Ar,q1,q2,q3,q4,q5,q6,q7,q8⟩
   ·rw [hb] at hn;cases hn
   ·rw [hb] at Ar;cases Ar
    have hle:cs.length≤arr.size:=by rw [q3,q4];exact Nat.mul_le_mul_right _ q5
    have:=Rep.rp (C:=C.bare G) (M:=[]) (w:=w) cs off b 0 (fun j=>arr.getD j undef) (fun i hi=>⟨hO _ _ b ho rfl hb,by rw [gS];exact bM q1 (by omega)⟩) (fun i hi=>(q7 i hi).mono hG (fun _ _=>rfl)) q8
    rwa [gS] at this
  ·rename_i ty cs ho
   have ho:=dZ ho
   split at hv
   ·rename_i xs hx
    cases hv;obtain ⟨b,rfl,hb⟩:=gQ h (jC ho rfl);obtain ⟨b',arr,Ar,q1,q2,q3,q4⟩:=hM.box _ _ _ ho;rw [hb] at Ar;cases Ar
    obtain ⟨r1,r2⟩:=aAw hM hG hO (us:=fun j=>arr.getD j undef) q3 hx
    have:=Rep.rp (C:=C.bare G) (M:=[]) (w:=w) xs off b 0 (fun j=>arr.getD j undef) (fun i hi=>⟨hO _ _ b ho rfl hb,by rw [gS];exact bM q1 (by omega)⟩) r2 (fun i hi=>q4 i (by omega))
    rwa [gS] at this
   ·cases hv
  ·cases hv
 | .agg cs,u,y,h,hv=>by
  simp only [view] at hv
  split at hv
  ·rename_i xs hx
   cases hv;cases h with
   | agg _ vs h0 h1 h2 =>
    obtain ⟨q1,q2⟩:=lQ (us:=fun i=>vs.getD i undef) h2 hx
    exact lR (fun i hi=>h0 i (by omega)) (by omega) q2
  ·cases hv
 | .fn f a b,u,y,h,hv=>by
  simp only [view] at hv
  split at hv
  ·rename_i a' ha
   split at hv
   ·rename_i b' hb
    cases hv;cases h with
    | fn _ _ _ us vs h1 h2 h3 h4 =>
     obtain ⟨q1,q2⟩:=lQ (us:=fun i=>us.getD i undef) h3 ha
     obtain ⟨r1,r2⟩:=lQ (us:=fun i=>vs.getD i undef) h4 hb
     exact .fn f a' b' us vs (by omega) (by omega) q2 r2
   ·cases hv
  ·cases hv
 | .arr id off n,u,y,h,hv=>by
  simp only [view] at hv
  split at hv
  ·rename_i r hr
   cases hv;have ho:=dC hr;cases h with
   | arr _ _ _ u h0 ha hrow =>
    rcases hrow _ ho rfl with ⟨rfl,p,cap,rfl,hc⟩ | ⟨b,cap,rfl,hn,hc,hb⟩
    ·rw [Nat.zero_mul,List.take_zero]
     exact .p _ _ (.sl 0 [] p cap (fun _=>undef) (Nat.zero_le _) hc (fun i h=>by simp at h) (fun i h=>by simp at h) (fun i h=>by simp at h))
    ·rcases hM.row _ _ _ _ ho with ⟨F3,_⟩ | ⟨b',arr,inf,Ar,q1,q2,q3,q4,q5,q6,q7,q8⟩
     ·rw [hb] at F3;cases F3
     ·rw [hb] at Ar;cases Ar
      have hle:r.2.2.length≤arr.size:=by rw [q3,q4];exact Nat.mul_le_mul_right _ q5
      have hlt:∀ i,i<((r.2.2.drop off).take (n*(r.2.2.length / r.2.1))).length→off+i<r.2.2.length:=fun i hi=>by simp at hi;omega
      refine .p _ _ (.sl n _ _ cap (fun j=>arr.getD (off+j) undef) hn hc (fun i hi=>⟨b,off,rfl,hO _ _ b ho rfl hb,bM q1 (by have:=hlt i hi;omega)⟩) (fun i hi => ?_) (fun i hi=>q8 _ (hlt i hi)))
      simp only [List.getElem_take,List.getElem_drop];exact (q7 _ (hlt i hi)).mono hG (fun _ _=>rfl)
  ·cases hv
 | .tup _,_,_,_,hv=>by simp [view] at hv
 | .mp _,_,_,_,hv=>by simp [view] at hv
 | .pa _ _,_,_,_,hv=>by simp [view] at hv
theorem lQ:∀ {l:List AV} {us:Nat→Value} {ys:List AV},(∀ i (h:i<l.length),Rep C M w l[i] (us i))→nU M l=some ys→ys.length=l.length∧∀ i (h:i<ys.length),Rep (C.bare G) [] w ys[i] (us i)
 | [],_,ys,_,hv=>by simp only [nU] at hv;cases hv;exact ⟨rfl,fun i h=>by simp at h⟩
 | x::r,us,ys,h,hv=>by
  simp only [nU] at hv
  split at hv
  ·rename_i y h1
   split at hv
   ·rename_i l h2
    cases hv;obtain ⟨q1,q2⟩:=lQ (us:=fun i=>us (i+1)) (fun i hi=>h (i+1) (by simpa using hi)) h2
    refine ⟨by simp [q1],fun i hi => ?_⟩
    cases i with
    | zero=>exact vO (h 0 (by simp)) h1
    | succ i=>exact q2 i (by simpa using hi)
   ·cases hv
  ·cases hv
end
end
end
section
variable {P:Program} {T:TT} {E:Env} {C C':Cx} {M M1:Mem} {w w':World}

def Cx.after(C:Cx)(w w':World)(kb:Option Nat):Cx:={ ι:=C.ι,κ:=C.κ,F:=fun b=>C.F b∨(w.heap.size≤b∧b<w'.heap.size∧kb≠some b) }

theorem wX(hM:aO P C M w){kb:Option Nat}(ho:w'.os=w.os)(ht:w'.tape=w.tape)(hu:w'.output=w.output)(hs:w.heap.size≤w'.heap.size)(hk:∀ b,b<w.heap.size→w'.heap[b]? = w.heap[b]?):Fr C M w (C.after w w' kb) M w'∧aO P (C.after w w' kb) M w':=by
 have hf:Fr C M w (C.after w w' kb) M w':=⟨ho,ht,hu,hs,fun b hb _=>hk b hb,fun _ x h=>⟨⟨x,h⟩,rfl,rfl⟩,fun _ _ _ _ _ cs h=>⟨cs,h⟩,fun _ o h o' h' hl=>by rw [h] at h';cases h';exact hl,
  fun i x _ h hl hb => .inr ⟨i,x,h,hl,hb⟩,fun _ h => .inl h,fun b h=>by rcases h with h | ⟨h,_⟩;exact .inl h;exact .inr (.inl h)⟩
 have hL:=hM.le hf;refine ⟨hf,fun i Cr n cs hm => ?_,fun i Cr cs hm => ?_,fun i es cl hm => ?_,hM.inj,fun i x b hm hl hb => ?_,fun b hb => ?_,fun i x b hm hl hb=>fU (hM.lt i x b hm hl hb) hs⟩
 ·rcases hM.row _ _ _ _ hm with h4 | ⟨b,arr,inf,q0,q1,q2,q3,q4,q5,q6,q7,q8⟩
  ·exact .inl h4
  ·exact .inr ⟨b,arr,inf,q0,(hk b (hM.lt _ _ _ hm rfl q0)).trans q1,q2,q3,q4,q5,q6,fun j hj=>(q7 j hj).mono hL.F hL.fz,q8⟩
 ·obtain ⟨b,arr,q0,q1,q2,q3,q4⟩:=hM.box _ _ _ hm
  exact ⟨b,arr,q0,(hk b (hM.lt _ _ _ hm rfl q0)).trans q1,q2,fun j hj=>(q3 j hj).mono hL,q4⟩
 ·obtain ⟨b,arr,q0,q1,q2,q3⟩:=hM.mp _ _ _ hm
  refine ⟨b,arr,q0,(hk b (hM.lt _ _ _ hm rfl q0)).trans q1,q2,fun j hj => ?_⟩
  obtain ⟨en,r1,r2,r3,r4⟩:=q3 j hj;exact ⟨en,r1,r2,r3,r4.mono hL.F hL.fz⟩
 ·rintro (h | ⟨h,_⟩)
  ·exact hM.nF i x b hm hl hb h
  ·have:=hM.lt i x b hm hl hb
   omega
 ·rcases hb with h | ⟨_,h,_⟩
  ·exact fU (hM.Fs b h) hs
  ·exact h

theorem bPt{C1:Cx}(hM:aO P C1 M w'){base b k ty n:Nat}{cs:List PV}(hf:aCe M base)(hnF:¬ C1.F b)(hold:∀ (i:Nat) (x:AO) (j:Nat),M[i]? = some (some x)→x.live=true→C1.ι i=some j→j<b)(hb:b<w'.heap.size)
  (hrow:∃ arr i,w'.heap[b]? = some (.cells arr ty (0,0))∧P.info? ty=some i∧arr.size=k*i.size∧cs.length=n*i.size∧n≤k∧k≤maxLen∧(∀ j (h:j<cs.length),bQ C1.F w' cs[j] (arr.getD j undef))∧∀ j,j<cs.length→(arr.getD j undef).oneCell'=true) :
  aO P (C1.grow base b k) (aW M base (some (.row ty n cs))) w'∧Le C1 (C1.grow base b k) M (aW M base (some (.row ty n cs))) w' w':=by
 have hne:∀ (i:Nat) (x:AO),M[i]? = some (some x)→i≠base:=fun i x h e=>hf x (e ▸ h)
 have hL:Le C1 (C1.grow base b k) M (aW M base (some (.row ty n cs))) w' w':=by
  refine ⟨fun i x h=>⟨x,(aP M base i _ x (fun e=>hne i x h e.symm)).2 h⟩,fun i x h ty n cs hm=>⟨cs,(aP M base i _ _ (fun e=>hne i x h e.symm)).1 hm⟩,fun i x h o' hm hl => ?_,fun _ h=>h,fun _ _=>rfl⟩
  have h4:=(aP M base i _ _ (fun e=>hne i x h e.symm)).1 hm
  rw [h] at h4;cases h4
  exact ⟨hl,by simp [Cx.grow,hne i x h],by simp [Cx.grow,hne i x h]⟩
 have Eb:∀ (i:Nat) (x:AO),i≠base→(aW M base (some (.row ty n cs)))[i]? = some (some x)→M[i]? = some (some x):=fun i x h=>(aP M base i _ x (fun e=>h e.symm)).1
 have hnew:∀ (x:AO),(aW M base (some (.row ty n cs)))[base]? = some (some x)→x = .row ty n cs:=fun x h=>by rw [aU] at h;cases h;rfl
 have hι:∀ i,i≠base→(C1.grow base b k).ι i=C1.ι i:=fun i h=>by simp [Cx.grow,h]
 have hκ:∀ i,i≠base→(C1.grow base b k).κ i=C1.κ i:=fun i h=>by simp [Cx.grow,h]
 have hιs:(C1.grow base b k).ι base=some b:=by simp [Cx.grow]
 have hκs:(C1.grow base b k).κ base=k:=by simp [Cx.grow]
 refine ⟨⟨fun i Cr n' Bl hm => ?_,fun i Cr Bl hm => ?_,fun i es cl hm => ?_,fun i i' o1 o2 j hm hl Dt Ea B5 Dr => ?_,fun i x j hm hl hj => ?_,fun j hj=>hM.Fs j hj,fun i x j hm hl hj => ?_⟩,hL⟩
 ·by_cases e:i=base
  ·subst e
   cases hnew _ hm;obtain ⟨arr,inf,q0,q1,q2,q3,q4,q5,q6,q7⟩:=hrow;exact .inr ⟨b,arr,inf,hιs,q0,q1,by rw [hκs];exact q2,q3,by rw [hκs];exact q4,by rw [hκs];exact q5,q6,q7⟩
  ·rw [hι i e,hκ i e]
   rcases hM.row _ _ _ _ (Eb i _ e hm) with h4 | ⟨j,arr,inf,q0,q1,q2,q3,q4,q5,q6,q7,q8⟩
   ·exact .inl h4
   ·exact .inr ⟨j,arr,inf,q0,q1,q2,q3,q4,q5,q6,q7,q8⟩
 ·by_cases e:i=base
  ·subst e;cases hnew _ hm
  ·rw [hι i e]
   obtain ⟨j,arr,q0,q1,q2,q3,q4⟩:=hM.box _ _ _ (Eb i _ e hm);exact ⟨j,arr,q0,q1,q2,fun j hj=>(q3 j hj).mono hL,q4⟩
 ·by_cases e:i=base
  ·subst e;cases hnew _ hm
  ·rw [hι i e]
   obtain ⟨j,arr,q0,q1,q2,q3⟩:=hM.mp _ _ _ (Eb i _ e hm);refine ⟨j,arr,q0,q1,q2,fun j hj => ?_⟩
   obtain ⟨en,r1,r2,r3,r4⟩:=q3 j hj;exact ⟨en,r1,r2,r3,r4.mono hL.F hL.fz⟩
 ·by_cases e:i=base
  ·by_cases e':i'=base
   ·rw [e,e']
   ·subst e
    rw [hιs] at B5;cases B5
    rw [hι i' e'] at Dr
    have:=hold i' _ _ (Eb i' _ e' Dt) Ea Dr;omega
  ·by_cases e':i'=base
   ·subst e'
    rw [hιs] at Dr;cases Dr
    rw [hι i e] at B5
    have:=hold i _ _ (Eb i _ e hm) hl B5;omega
   ·rw [hι i e] at B5;rw [hι i' e'] at Dr
    exact hM.inj _ _ _ _ _ (Eb i _ e hm) hl (Eb i' _ e' Dt) Ea B5 Dr
 ·by_cases e:i=base
  ·subst e;rw [hιs] at hj;cases hj;exact hnF
  ·rw [hι i e] at hj;exact hM.nF _ _ _ (Eb i _ e hm) hl hj
 ·by_cases e:i=base
  ·subst e;rw [hιs] at hj;cases hj;exact hb
  ·rw [hι i e] at hj;exact hM.lt _ _ _ (Eb i _ e hm) hl hj
end
section
variable {P:Program} {T:TT} {E:Env} {C C':Cx} {M M1:Mem} {w w':World}

def bCu:List AV→Option Nat
 | []=>none
 | .own id::_=>some id
 | _::r=>bCu r
def bPr:AV→Option Nat
 | .own id=>some id
 | .tup l=>bCu l
 | _=>none
def bFy(m:Mem)(base k:Nat)(x:AV):Option AV:=match x with
 | .own id=>match Nat.beq id k with
  | true=>some (.own base)
  | false=>view m (.own id)
 | x=>view m x
def bCv(m:Mem)(base k:Nat):List AV→Option (List AV)
 | []=>some []
 | x::r=>match bFy m base k x with
  | some y=>match bCv m base k r with
   | some l=>some (y::l)
   | none=>none
  | none=>none
def bPs(m:Mem)(base k:Nat):AV→Option AV
 | .tup l=>match bCv m base k l with
  | some ys=>some (.tup ys)
  | none=>none
 | x=>bFy m base k x
def aPp(m:Mem)(base:Nat)(r:AV):Option (AV × Upd):=match bPr r with
 | some k=>match fO m k with
  | some q=>match bPs (upds m [(k,.dead)]) base k r with
   | some y=>some (y,[(base,.row q.1 q.2.1 q.2.2)])
   | none=>none
  | none=>none
 | none=>match bPs m base m.length r with
  | some y=>some (y,[])
  | none=>none

def bFz:AV→Bool
 | .own _=>true
 | x=>rig x
def aDc:List AV→Bool
 | []=>true
 | x::r=>match bFz x with
  | true=>aDc r
  | false=>false
def bGa:AV→Bool
 | .tup l=>aDc l
 | x=>bFz x
def aPq:Upd→Bool
 | []=>true
 | (_,.row _ _ cs)::r=>match aAu cs with
  | true=>aPq r
  | false=>false
 | _=>false
theorem aPr:∀ {l:List AV},aDc l=true→∀ i (h:i<l.length),bFz l[i]=true
 | [],_,i,h=>by simp at h
 | x::r,hr,i,h=>by
  unfold aDc at hr
  split at hr
  ·cases i with
   | zero=>assumption
   | succ i=>exact aPr hr i (by simpa using h)
  ·cases hr

theorem aPs{cs l:List AV}(h:kD cs = .tup l):False:=by
 unfold kD at h;split at h <;> cases h
theorem aPt{m:Mem}{x:AV}{l:List AV}(h:view m x=some (.tup l)):False:=by
 cases x with
 | agg cs =>
  simp only [view] at h
  split at h
  ·injection h with h;exact aPs h
  ·cases h
 | fn f a b =>
  simp only [view] at h
  split at h
  ·split at h <;> cases h
  ·cases h
 | ptr id off =>
  simp only [view] at h
  split at h
  ·cases h
  ·split at h <;> cases h
  ·cases h
 | own id=>simp only [view] at h;split at h <;> cases h
 | arr id off n=>simp only [view] at h;split at h <;> cases h
 | _=>simp [view] at h

theorem aDd{C2:Cx}{M2 m:Mem}{Ck:Cx}{base k:Nat}{A:Prop}(hM:aO P Ck m w')
  (hA:A→(∀ b,Ck.F b→C2.F b)∧∀ (id:Nat) (o:AO) (b:Nat),m[id]? = some (some o)→o.live=true→Ck.ι id=some b→C2.F b)
  (hk:∀ u,Rep C' M1 w' (.own k) u→Rep C2 M2 w' (.own base) u) (hL:Le C' Ck M1 m w' w') {x y:AV} {u:Value} (h:Rep C' M1 w' x u) (hx:bFy m base k x=some y) (hr:A∨bFz y=true):Rep C2 M2 w' y u:=by
 have sv:∀ {x y:AV} {u:Value},Rep C' M1 w' x u→view m x=some y→(A∨bFz y=true)→Rep C2 M2 w' y u:=fun {x y u} h hv hr=>by
  rcases hr with hr | hr
  ·obtain ⟨h1,h2⟩:=hA hr
   have:=vO hM h1 h2 (h.mono hL) hv;have hle:Le (Ck.bare C2.F) C2 [] M2 w' w':=⟨fun _ _ h=>by simp at h,fun _ _ h=>by simp at h,fun _ _ h=>by simp at h,fun _ h=>h,fun _ _=>rfl⟩
   exact this.mono hle
  ·have:=vO (G:=fun b=>Ck.F b∨∃ (id:Nat) (o:AO),m[id]? = some (some o)∧o.live=true∧Ck.ι id=some b) hM (fun _ h => .inl h) (fun id o b h1 h2 h3 => .inr ⟨id,o,h1,h2,h3⟩) (h.mono hL) hv
   cases y with
   | own id=>cases this with | own _ _ _ ha _=>obtain ⟨o,ho⟩:=ha;simp at ho
   | _=>exact this.rig hr
 unfold bFy at hx
 split at hx
 ·rename_i id
  split at hx
  ·rename_i hb
   cases hx;have:=Nat.eq_of_beq_eq_true hb;subst this;exact hk u h
  ·exact sv h hx hr
 ·exact sv h hx hr

theorem aAt{C2:Cx}{M2 m:Mem}{Ck:Cx}{base k:Nat}{A:Prop}(hM:aO P Ck m w')
  (hA:A→(∀ b,Ck.F b→C2.F b)∧∀ (id:Nat) (o:AO) (b:Nat),m[id]? = some (some o)→o.live=true→Ck.ι id=some b→C2.F b)
  (hk:∀ u,Rep C' M1 w' (.own k) u→Rep C2 M2 w' (.own base) u) (hL:Le C' Ck M1 m w' w'):∀ {l ys:List AV} {us:Nat→Value},(∀ i (h:i<l.length),Rep C' M1 w' l[i] (us i))→bCv m base k l=some ys→(A∨aDc ys=true) →
   ys.length=l.length∧∀ i (h:i<ys.length),Rep C2 M2 w' ys[i] (us i)
 | [],ys,us,_,hx,_=>by cases hx;exact ⟨rfl,fun i h=>by simp at h⟩
 | x::r,ys,us,h,hx,hr=>by
  unfold bCv at hx
  split at hx
  ·rename_i y h1
   split at hx
   ·rename_i l h2
    cases hx;have Hl:A∨bFz y=true:=hr.imp id fun hr=>aPr (l:=y::l) hr 0 (by simp)
    have Ep:A∨aDc l=true:=hr.imp id fun hr=>by
     unfold aDc at hr
     split at hr
     ·exact hr
     ·cases hr
    obtain ⟨q1,q2⟩:=aAt hM hA hk hL (us:=fun i=>us (i+1)) (fun i hi=>h (i+1) (by simpa using hi)) h2 Ep
    refine ⟨by simp [q1],fun i hi => ?_⟩
    cases i with
    | zero=>exact aDd hM hA hk hL (h 0 (by simp)) h1 Hl
    | succ i=>exact q2 i (by simpa using hi)
   ·cases hx
  ·cases hx

theorem vN{C2:Cx}{M2 m:Mem}{Ck:Cx}{base k:Nat}{A:Prop}(hM:aO P Ck m w')
  (hA:A→(∀ b,Ck.F b→C2.F b)∧∀ (id:Nat) (o:AO) (b:Nat),m[id]? = some (some o)→o.live=true→Ck.ι id=some b→C2.F b)
  (hk:∀ u,Rep C' M1 w' (.own k) u→Rep C2 M2 w' (.own base) u) (hL:Le C' Ck M1 m w' w') {x y:AV} {u:Value} (h:Rep C' M1 w' x u) (hx:bPs m base k x=some y) (hr:A∨bGa y=true):Rep C2 M2 w' y u:=by
 unfold bPs at hx
 split at hx
 ·rename_i l
  split at hx
  ·rename_i ys hy
   cases hx;cases h with
   | tup _ vs h1 h2 =>
    obtain ⟨q1,q2⟩:=aAt hM hA hk hL (us:=fun i=>vs.getD i undef) h2 hy hr
    exact .tup _ _ (by omega) q2
  ·cases hx
 ·rename_i hn
  refine aDd hM hA hk hL h hx (hr.imp id fun hr => ?_)
  unfold bGa at hr
  split at hr
  ·exfalso
   unfold bFy at hx
   split at hx
   ·split at hx
    ·cases hx
    ·exact aPt hx
   ·exact aPt hx
  ·exact hr

theorem zD{f:Nat}{args A9:List AV}{r y:AV}{L:Upd}{base:Nat}(hm:jD args=true∧A9=args∨nU M args=some A9∧bGa y=true∧aPq L=true)(hb:gJ M base=true)
  (ho:aPp M1 base r=some (y,L)) (h:FMM P f A9 [] r M1):FM P f args M y L:=by
 intro C w us hus hM n;obtain ⟨G,hG,hGs,hA,Q8⟩:∃ G:Nat→Prop,(∀ b,C.F b→G b)∧(∀ b,G b→b<w.heap.size)∧((∀ b,G b→C.F b)∨bGa y=true∧aPq L=true)∧cN (C.bare G) [] w A9 us:=by
  rcases hm with ⟨hn,rfl⟩ | ⟨hv,Hl,Ep⟩
  ·refine ⟨C.F,fun _ h=>h,hM.Fs,.inl fun _ h=>h,?_⟩
   have:∀ {l:List AV} {us:List Value},jD l=true→cN C M w l us→cN (C.bare C.F) [] w l us:=by
    intro l
    induction l with
    | nil=>intro us _ h;cases h;exact .nil
    | cons x l ih =>
     intro us hn h;cases h with
     | cons _ u _ k hx hr =>
      have h0:=pF hn 0 (by simp)
      unfold jD at hn
      split at hn
      ·exact .cons _ _ _ _ (hx.noRef h0 (fun _ h=>h) (fun _ _=>rfl)) (ih hn hr)
      ·cases hn
   exact this hn hus
  ·refine ⟨fun b=>C.F b∨∃ (id:Nat) (o:AO),M[id]? = some (some o)∧o.live=true∧C.ι id=some b,fun _ h => .inl h,fun b h => ?_,.inr ⟨Hl,Ep⟩,?_⟩
   ·rcases h with h | ⟨id,o,h1,h2,h3⟩
    ·exact hM.Fs b h
    ·exact hM.lt id o b h1 h2 h3
   ·obtain ⟨q1,q2⟩:=lQ (G:=fun b=>C.F b∨∃ (id:Nat) (o:AO),M[id]? = some (some o)∧o.live=true∧C.ι id=some b) hM (fun _ h => .inl h) (fun id o b h1 h2 h3 => .inr ⟨id,o,h1,h2,h3⟩) (us:=fun i=>us.getD i undef) (fun i hi=>hus.at i hi) hv
    have:=cN.ofArr (l:=A9) (us:=us.toArray) (by simp [hus.len,q1]) (fun i hi=>by rw [bR];exact q2 i hi)
    exact this
 have Cy:aO P (C.bare G) [] w:=⟨fun _ _ _ _ h=>by simp at h,fun _ _ _ h=>by simp at h,fun _ _ _ h=>by simp at h,fun _ _ _ _ _ h=>by simp at h,fun _ _ _ h=>by simp at h,hGs,fun _ _ _ h=>by simp at h⟩
 refine (h (C.bare G) w us Q8 Cy n).mono ?_;rintro e w' ⟨u,rfl,C',hF,Ca,hr⟩;refine ⟨u,rfl,?_⟩;have hkeep:∀ b,b<w.heap.size→w'.heap[b]? = w.heap[b]? := fun b hb=>hF.keep b hb (fun id o h=>by simp at h)
 have hnew:∀ (id:Nat) (o:AO) (b:Nat),M1[id]? = some (some o)→o.live=true→C'.ι id=some b→w.heap.size≤b:=fun id o b h1 h2 h3=>by
  rcases hF.new id o b h1 h2 h3 with h4 | ⟨_,_,h4,_⟩
  ·exact h4
  ·simp at h4
 have Hm:∀ b,C'.F b→G b∨w.heap.size≤b:=fun b hb=>by
  rcases hF.F2 b hb with h4 | h4 | ⟨_,_,h4,_⟩
  ·exact .inl h4
  ·exact .inr h4
  ·simp at h4
 have hfree:=cM hb;unfold aPp at ho
 split at ho
 ·rename_i k hk
  split at ho
  ·rename_i q hq
   split at ho
   ·rename_i y' hy
    cases ho;have hok:=dC hq;have hmk:=pN Ca (id:=k) false hok rfl;have hlk:=Ca.le (cX (C:=C') (w:=w') (id:=k) false hok rfl);obtain ⟨f1,m1⟩:=wX (C:=C) (M:=M) (w:=w) (w':=w') (kb:=C'.ι k) hM hF.os hF.tape hF.out hF.size hkeep;have hAA:(∀ b,G b→C.F b)→(∀ b,(C'.close k false).F b→(C.after w w' (C'.ι k)).F b)∧∀ (id:Nat) (o:AO) (b:Nat),(upds M1 [(k,.dead)])[id]? = some (some o)→o.live=true→(C'.close k false).ι id=some b→(C.after w w' (C'.ι k)).F b:=by
     intro hGC;refine ⟨fun b hb => ?_,fun id o b h1 h2 h3 => ?_⟩
     ·have Ar:C'.F b:=by rcases hb with hb | ⟨hb,_⟩;exact hb;cases hb
      rcases Hm b Ar with h4 | h4
      ·exact .inl (hGC b h4)
      ·exact .inr ⟨h4,Ca.Fs b Ar,fun e=>Ca.nF _ _ _ hok rfl e Ar⟩
     ·simp only [upds] at h1
      have hne:k≠id:=fun e=>by subst e;rw [aU] at h1;cases h1;cases h2
      have I7:=(aP M1 k id _ _ hne).1 h1;exact .inr ⟨hnew id o b I7 h2 h3,Ca.lt id o b I7 h2 h3,fun e=>hne (Ca.inj _ _ _ _ _ hok rfl I7 h2 e h3)⟩
    cases hkb:C'.ι k with
    | none =>
     rw [hkb] at hAA f1 m1
     obtain ⟨hz,hcs⟩:q.2.1=0∧q.2.2=[]:=by
      rcases Ca.row _ _ _ _ hok with ⟨_,hz,hcs⟩ | ⟨b,_,_,hb,_⟩
      ·exact ⟨hz,hcs⟩
      ·rw [hkb] at hb;cases hb
     rw [hz,hcs];have m2:=xO (ty:=q.1) m1 hfree;have f2:=xN (ty:=q.1) (C:=C.after w w' none) (w:=w') hfree;have hle:=m1.le f2;refine ⟨_,f1.trans f2,m2,?_⟩;refine vN (C2:=(C.after w w' none).nil base) (M2:=upds M [(base,.row q.1 0 [])]) (A:=∀ b,G b→C.F b) hmk (fun h=>⟨fun b hb=>(hAA h).1 b hb,fun id o b h1 h2 h3=>(hAA h).2 id o b h1 h2 h3⟩) (fun v hv => ?_) hlk hr hy (hA.imp id (·.1))
     cases hv with
     | own _ _ h0 ha hrow =>
      rcases hrow _ _ _ hok with ⟨rfl,_,_⟩ | ⟨b,_,hb⟩
      ·exact .own base _ rfl ⟨_,aU ..⟩ (fun ty n cs h=>by simp only [upds] at h;rw [aU] at h;cases h;exact .inl ⟨rfl,by simp [Cx.nil],rfl⟩)
      ·rw [hkb] at hb;cases hb
    | some b =>
     rw [hkb] at hAA f1 m1
     rcases Ca.row _ _ _ _ hok with ⟨hn,_⟩ | ⟨b',arr,inf,Ar,q1,q2,q3,q4,q5,q6,q7,q8⟩
     ·rw [hkb] at hn;cases hn
     rw [hkb] at Ar;cases Ar
     have hbn:=hnew k _ b hok rfl hkb;have hbl:=Ca.lt k _ b hok rfl hkb;have hcell:∀ j (h:j<q.2.2.length),bQ (C.after w w' (some b)).F w' q.2.2[j] (arr.getD j undef):=fun j hj=>by
      rcases hA with hGC | ⟨_,Ep⟩
      ·exact (q7 j hj).mono (fun b hb=>(hAA hGC).1 b (.inl hb)) (fun _ _=>rfl)
      ·simp only [aPq] at Ep
       split at Ep
       ·rename_i hcs
        exact (q7 j hj).rig (aDe hcs j hj)
       ·cases Ep
     obtain ⟨m2,hl2⟩:=bPt (base:=base) (b:=b) (k:=C'.κ k) (ty:=q.1) (n:=q.2.1) (cs:=q.2.2) m1 hfree (fun hF=>by
      rcases hF with hF | ⟨_,_,hF⟩
      ·have:=hM.Fs b hF;omega
      ·exact hF rfl) (fun i x j h1 h2 h3=>by have:=hM.lt i x j h1 h2 h3;omega) hbl ⟨arr,inf,q1,q2,q3,q4,q5,q6,hcell,q8⟩
     refine ⟨_,?_,m2,?_⟩
     ·have hne:∀ (i:Nat) (x:AO),M[i]? = some (some x)→i≠base:=fun i x h e=>hfree x (e ▸ h)
      refine ⟨f1.os,f1.tape,f1.out,f1.size,f1.keep,fun i x h=>⟨hl2.ids i x h,by simp [Cx.grow,Cx.after,hne i x h],by simp [Cx.grow,Cx.after,hne i x h]⟩,hl2.row,fun i x h o' h1 h2=>(hl2.liv i x h o' h1 h2).1,fun i x j h1 h2 h3 => ?_,f1.F1,f1.F2⟩
      by_cases e:i=base
      ·subst e
       simp only [Cx.grow,if_true] at h3
       cases h3;exact .inl hbn
      ·simp only [Cx.grow,e,if_false] at h3
       exact f1.new i x j ((aP M base i _ _ (fun e'=>e e'.symm)).1 h1) h2 h3
     ·refine vN (C2:=(C.after w w' (some b)).grow base b (C'.κ k)) (M2:=upds M [(base,.row q.1 q.2.1 q.2.2)]) (A:=∀ b,G b→C.F b) hmk (fun h=>⟨fun b hb=>(hAA h).1 b hb,fun id o b h1 h2 h3=>(hAA h).2 id o b h1 h2 h3⟩) (fun v hv => ?_) hlk hr hy (hA.imp id (·.1))
      cases hv with
      | own _ _ h0 ha hrow =>
       rcases hrow _ _ _ hok with ⟨_,hn,_⟩ | ⟨b',rfl,hb⟩
       ·rw [hkb] at hn;cases hn
       ·rw [hkb] at hb;cases hb
        exact .own base _ rfl ⟨_,aU ..⟩ (fun ty n cs h=>by simp only [upds] at h;rw [aU] at h;cases h;exact .inr ⟨b,by simp [Cx.grow],by simp [Cx.grow]⟩)
   ·cases ho
  ·cases ho
 ·rename_i hk
  split at ho
  ·rename_i y' hy
   cases ho;obtain ⟨f1,m1⟩:=wX (C:=C) (M:=M) (w:=w) (w':=w') (kb:=none) hM hF.os hF.tape hF.out hF.size hkeep;refine ⟨_,f1,m1,?_⟩;refine vN (C2:=C.after w w' none) (M2:=upds M []) (A:=∀ b,G b→C.F b) Ca (fun hGC=>⟨fun b hb => ?_,fun id o b h1 h2 h3 => .inr ⟨hnew id o b h1 h2 h3,Ca.lt id o b h1 h2 h3,nofun⟩⟩) (fun v hv => ?_) ⟨fun i o h=>⟨o,h⟩,fun _ _ _ _ _ cs h=>⟨cs,h⟩,fun _ o h o' h' hl=>by rw [h] at h';cases h';exact ⟨hl,rfl,rfl⟩,fun _ h=>h,fun _ _=>rfl⟩ hr hy (hA.imp id (·.1))
   ·rcases Hm b hb with h4 | h4
    ·exact .inl (hGC b h4)
    ·exact .inr ⟨h4,Ca.Fs b hb,nofun⟩
   ·cases hv with
    | own _ _ h0 ha hrow =>
     obtain ⟨o,ho⟩:=ha;rw [List.getElem?_eq_none (dG _)] at ho
     cases ho
  ·cases ho
end
section
variable {P:Program} {T:TT} {E:Env} {C C':Cx} {M M1 M2:Mem} {w w':World}

def s0:AS:={ auto:=true,o:=[],obs:=[] }

end
section
variable {P:Program} {T:TT} {E:Env} {C C0:Cx} {M M0:Mem} {w w0:World}

def aF(P:Program)(k:Nat)(b:Code)(st:St)(e:Ex)(Am:St):Prop:=∀ (C0:Cx) (M0:Mem) (w0:World) (a:Act) (w:World),M0.length≤k→Sim P C0 M0 w0 st a w→∀ (ro:Option Nat),lY ro b→∀ (n:Nat),LoopIn (Fen ro) n P b (fun e' a' w'=>e'=e.toExit∧Sim P C0 M0 w0 Am a' w') a w

section
variable {k:Nat} {b:Code} {st st1 Am:St} {e:Ex}
theorem aF.step(h:aB P k b st .normal st1)(hr:aF P k b st1 e Am):aF P k b st e Am:=fun C0 M0 w0 a w hk hs ro hro n=>LoopIn.step (wpIn_mono (h C0 M0 w0 a w hk hs ro hro n) fun e' a' w' hq=>by
 obtain ⟨rfl,B3⟩:=hq;exact hr C0 M0 w0 a' w' hk B3 ro hro n)
theorem aF.exit(h:aB P k b st e Am)(he:e ≠ .normal):aF P k b st e Am:=fun C0 M0 w0 a w hk hs ro hro n=>LoopIn.step (wpIn_mono (h C0 M0 w0 a w hk hs ro hro n) fun e' a' w' hq=>by
 obtain ⟨rfl,B3⟩:=hq;cases e with
 | normal=>exact absurd rfl he
 | ret=>exact ⟨rfl,B3⟩
 | exit id=>exact ⟨rfl,B3⟩)
theorem aF.code(h:aF P k b st e Am):aB P k (.loop b) st e Am:=fun C0 M0 w0 a w hk hs ro hro n=>LoopIn.wp (h C0 M0 w0 a w hk hs ro hro.loop n)
theorem aF.range{α β:Type}(S:Nat→β→St)(R:β→St)(f:β→α→β)(Inv:Nat→β→Prop)(he:e ≠ .normal)(l:List α){a0:β}(h0:Inv 0 a0)
  (hs:∀ (i:Nat) (x:α) (acc:β),l[i]? = some x→Inv i acc→Inv (i+1) (f acc x)∧aB P k b (S i acc) .normal (S (i+1) (f acc x)))
  (hx:∀ acc,Inv l.length acc→aB P k b (S l.length acc) e (R acc)):aF P k b (S 0 a0) e (R (l.foldl f a0)):=by
 have key:∀ (r:List α) (i:Nat) (acc:β),l.drop i=r→i≤l.length→Inv i acc→aF P k b (S i acc) e (R (r.foldl f acc)):=by
  intro r
  induction r with
  | nil =>
   intro i acc hd hi hI;have:i=l.length:=by have:=congrArg List.length hd;simp at this;omega
   subst this;exact .exit (hx _ hI) he
  | cons x r ih =>
   intro i acc hd hi hI;have hl:l[i]? = some x:=by
    have:=congrArg (·[0]?) hd
    simpa using this
   obtain ⟨h1,h2⟩:=hs i x acc hl hI;have hlt:i<l.length:=(Bs.1 hl).1;refine .step h2 (ih (i+1) _ ?_ (by omega) h1)
   have:=congrArg List.tail hd;simpa [List.tail_drop] using this
 exact key l 0 a0 (by simp) (Nat.zero_le _) h0

end

def FV(P:Program)(f:Nat)(args:List AV)(base:Nat)(y:AV)(L:Upd):Prop:=∃ r M1,FMM P f args [] r M1∧aPp M1 base r=some (y,L)

theorem FV.fc{f base:Nat}{args:List AV}{y:AV}{L:Upd}{bs:List (Nat × AO)}(h:FV P f args base y L)(hn:jD args=true):FC P f args bs base y L:=fun M _ hb _=>by
 obtain ⟨r,M1,h1,h2⟩:=h;exact zD (.inl ⟨hn,rfl⟩) hb h2 h1

def aVl(m M:Mem):Prop:=∀ (id:Nat) (o:AO),bK m id=some o→bK M id=some o
section
variable {m:Mem}
theorem aLr(hs:aVl m M){id:Nat}{r:Nat × Nat × List PV}(h:fO m id=some r):fO M id=some r:=by
 have:=bD.2 (dC h);unfold fO;rw [hs _ _ this]
theorem bFx(hs:aVl m M){x:AV}{y:PV}(h:E1 m x=some y):E1 M x=some y:=by
 unfold E1 at h ⊢
 split at h
 ·exact h
 ·exact h
 ·split at h
  ·rename_i hr
   rw [aLr hs hr];exact h
  ·cases h
 ·cases h
theorem aIy(hs:aVl m M):∀ {l:List AV} {ys:List PV},aDz m l=some ys→aDz M l=some ys
 | [],_,h=>h
 | x::r,ys,h=>by
  unfold aDz at h ⊢
  split at h
  ·rename_i h1
   split at h
   ·rename_i h2
    rw [bFx hs h1,aIy hs h2];exact h
   ·cases h
  ·cases h
mutual
theorem bPq(hs:aVl m M):∀ {x y:AV},view m x=some y→view M x=some y
 | .p x,y,h=>by simp only [view] at h ⊢;exact h
 | .kb b,y,h=>by simp only [view] at h ⊢;exact h
 | .any,y,h=>by simp only [view] at h ⊢;exact h
 | .yld l,y,h=>by simp only [view] at h ⊢;exact h
 | .rp cs o,y,h=>by simp only [view] at h ⊢;exact h
 | .own id,y,h=>by
  simp only [view] at h ⊢
  split at h
  ·rename_i hr
   rw [aLr hs hr];exact h
  ·cases h
 | .arr id off n,y,h=>by
  simp only [view] at h ⊢
  split at h
  ·rename_i hr
   rw [aLr hs hr];exact h
  ·cases h
 | .ptr id off,y,h=>by
  simp only [view] at h ⊢
  split at h
  ·rename_i hr
   rw [hs _ _ hr];exact h
  ·rename_i hr
   rw [hs _ _ hr]
   split at h
   ·rename_i hc
    simp only [aIy hs hc];exact h
   ·cases h
  ·cases h
 | .agg l,y,h=>by
  simp only [view] at h ⊢
  split at h
  ·rename_i hr
   rw [pE hs hr];exact h
  ·cases h
 | .fn f a b,y,h=>by
  simp only [view] at h ⊢
  split at h
  ·rename_i ha
   split at h
   ·rename_i hb
    rw [pE hs ha,pE hs hb];exact h
   ·cases h
  ·cases h
 | .tup l,y,h=>by simp [view] at h
 | .mp i,y,h=>by simp [view] at h
theorem pE(hs:aVl m M):∀ {l ys:List AV},nU m l=some ys→nU M l=some ys
 | [],_,h=>by simp only [nU] at h ⊢;exact h
 | x::r,ys,h=>by
  simp only [nU] at h ⊢
  split at h
  ·rename_i h1
   split at h
   ·rename_i h2
    rw [bPq hs h1,pE hs h2];exact h
   ·cases h
  ·cases h
end
end
theorem rU:∀ (bs:Upd) (m:Mem) (id:Nat) (o:AO),bK (upds m bs) id=some o→(id,o)∈bs∨bK m id=some o
 | [],_,_,_,h => .inr h
 | (i,x)::r,m,id,o,h=>by
  rcases rU r _ id o h with h1 | h1
  ·exact .inl (Cj _ h1)
  ·rw [cZ] at h1
   split at h1
   ·rename_i e
    subst e;cases h1;exact .inl (iN ..)
   ·exact .inr h1
theorem FV.view{f base:Nat}{args A9:List AV}{y:AV}{L:Upd}{bs:List (Nat × AO)}(h:FV P f A9 base y L)(hv:nU (upds [] bs) args=some A9)(h1:bGa y=true)(h2:aPq L=true):FC P f args bs base y L:=fun M hb hf _=>by
 obtain ⟨r,M1,h3,h4⟩:=h;refine zD (.inr ⟨pE (fun id o ho => ?_) hv,h1,h2⟩) hf h4 h3
 rcases rU bs [] id o ho with h5 | h5
 ·exact hb _ h5
 ·simp [bK] at h5
end
section
noncomputable abbrev Tp:=Tryz.prog

inductive Tr (α:Type) where
 | nil
 | node (v:Option α) (l r:Tr α)
def Tr.get{α:Type}:Tr α→Nat→Option α
 | .nil,_=>none
 | .node v l r,k=>match Nat.beq k 0 with
  | true=>v
  | false=>match Nat.beq (Nat.mod k 2) 1 with
   | true=>l.get (Nat.div k 2)
   | false=>r.get (Nat.sub (Nat.div k 2) 1)
def Tr.all{α:Type}(f:Nat→Nat):Tr α→List (Nat × α)
 | .nil=>[]
 | .node v l r=>(match v with | some x=>[(f 0,x)] | none=>[])++l.all (fun k=>f (2*k+1))++r.all (fun k=>f (2*k+2))
theorem Tr.get_all{α:Type}:∀ (t:Tr α) (f:Nat→Nat) (k:Nat) (x:α),t.get k=some x→(f k,x)∈t.all f
 | .nil,_,_,_,h=>by cases h
 | .node v l r,f,k,x,h=>by
  unfold Tr.get at h
  unfold Tr.all
  split at h
  ·rename_i hb
   have hk:=Nat.eq_of_beq_eq_true hb;subst hk;subst h;exact mK _ (mK _ (iN ..))
  ·rename_i hb
   have hk:=Nat.ne_of_beq_eq_false hb
   split at h
   ·rename_i h1
    have h1:k % 2=1:=Nat.eq_of_beq_eq_true h1;have:=Tr.get_all l (fun k=>f (2*k+1)) _ x h
    refine mK _ (zQ _ ?_);have e:2*(k / 2)+1=k:=by omega
    have e':2*Nat.div k 2+1=k:=e;simp only [e'] at this
    exact this
   ·rename_i h1
    have h1:k % 2≠1:=Nat.ne_of_beq_eq_false h1;have:=Tr.get_all r (fun k=>f (2*k+2)) _ x h
    refine zQ _ ?_;have e:2*(k / 2-1)+2=k:=by omega
    have e':2*Nat.sub (Nat.div k 2) 1+2=k:=e;simp only [e'] at this
    exact this

abbrev tL(v:Option TI):Tr TI := .node v .nil .nil
abbrev Eg:Option TI:=some ⟨.func,1,8,[.nilFunc],true⟩
abbrev Oa:Option TI:=some ⟨.int .i64,1,8,[.int .i64 0],true⟩
abbrev Rt:Option TI:=some ⟨.int .u64,1,8,[.int .u64 0],true⟩
abbrev Ru:Option TI:=some ⟨.struct [(0,3,true),(1,3,true)],2,16,[.int .i64 0,.int .i64 0],true⟩
def tTr:Tr TI := .node none (.node Eg (.node Oa (.node none (.node none (.node (some ⟨.slice 3,1,24,[.slice none 0 0],true⟩) (.node (some ⟨.struct [(0,3,true),(1,3,true),(2,3,true)],3,24,[.int .i64 0,.int .i64 0,.int .i64 0],true⟩) .nil (tL Eg)) .nil) (.node none .nil (tL Eg))) (.node (some ⟨.slice 80,1,24,[.slice none 0 0],true⟩) (.node none .nil (.node (some ⟨.struct [(0,101,true)],1,8,[.nilFunc],true⟩) (tL (some ⟨.map 3 24,1,8,[.map none],true⟩)) .nil)) (.node none .nil (.node (some ⟨.struct [(0,115,true),(1,116,true),(2,115,true),(3,117,true),(4,116,true)],5,40,.nilFunc::List.replicate 4 (.nilFunc),true⟩) (.node (some ⟨.map 3 4,1,8,[.map none],true⟩) (tL (some ⟨.ptr 3,1,8,[.pointer none],true⟩)) .nil) .nil)))) (.node none (.node none (.node none .nil (.node none .nil (tL Eg))) (.node none .nil (.node Eg (.node none (tL Rt) .nil) (tL (some ⟨.array 5 242,5,40,.nilFunc::List.replicate 4 (.nilFunc),true⟩))))) (.node none (.node (some ⟨.slice 54,1,24,[.slice none 0 0],true⟩) .nil (.node none (tL Eg) .nil)) (.node none .nil (tL (some ⟨.array 61 3,61,488,.int .i64 0::List.replicate 60 (.int .i64 0),true⟩)))))) (.node (some ⟨.int .u8,1,1,[.int .u8 0],true⟩) (.node (some ⟨.str,1,16,[.string { data := #[] }],true⟩) (.node none (.node none (.node Ru .nil (tL Eg)) (.node none .nil (tL Eg))) .nil) (.node none (.node none .nil (.node none (tL (some ⟨.struct [(0,26,true),(3,166,true),(4,167,true)],5,72,[.int .i64 0,.slice none 0 0,.slice none 0 0,.map none,.map none],true⟩)) .nil)) (.node none .nil (.node none (tL Eg) .nil)))) (.node none (.node none (.node none (.node none (tL Ru) (tL Eg)) (.node Eg .nil (tL (some ⟨.array 2 3,2,16,[.int .i64 0,.int .i64 0],true⟩)))) (.node none .nil (tL Eg))) (.node none (.node none (.node none (.node none (tL Eg) .nil) (tL Eg)) (tL Eg)) (.node (some ⟨.slice 65,1,24,[.slice none 0 0],true⟩) .nil (.node (some ⟨.struct [(0,3,true),(1,123,true)],62,496,.int .i64 0::List.replicate 61 (.int .i64 0),true⟩) (tL Eg) .nil)))))) (.node Oa (.node (some ⟨.bool,1,1,[.bool false],true⟩) (.node none (.node none (.node (some ⟨.slice 31,1,24,[.slice none 0 0],true⟩) (.node none (tL Eg) .nil) (.node (some ⟨.struct [(0,22,true),(1,3,true),(2,94,true)],3,40,[.slice none 0 0,.int .i64 0,.int .u32 0],true⟩) (.node none (tL Rt) .nil) .nil)) (.node none (tL Ru) .nil)) (.node (some ⟨.slice 84,1,24,[.slice none 0 0],true⟩) (.node (some ⟨.slice 63,1,24,[.slice none 0 0],true⟩) .nil (.node none .nil (tL (some ⟨.struct [(0,230,true),(1,229,true)],3,40,[.slice none 0 0,.int .i64 0,.int .i64 0],true⟩)))) (.node none (.node Eg (.node none (tL Oa) .nil) .nil) (.node none (tL Eg) (tL Eg))))) (.node none (.node none (.node Oa .nil (.node none .nil (tL Eg))) (.node none (tL (some ⟨.struct [(0,3,true),(1,82,true),(2,3,true),(3,3,true),(4,3,true),(5,3,true)],6,48,.int .i64 0::List.replicate 5 (.int .i64 0),true⟩)) (tL Eg))) (.node (some ⟨.ptr 96,1,8,[.pointer none],true⟩) (.node Eg (.node none .nil (tL Eg)) .nil) .nil))) (.node (some ⟨.int .u8,1,1,[.int .u8 0],true⟩) (.node none (.node none (.node (some ⟨.struct [(0,3,true),(1,3,true),(2,3,true),(3,31,true),(4,32,true)],5,72,[.int .i64 0,.int .i64 0,.int .i64 0,.slice none 0 0,.slice none 0 0],true⟩) (.node none (tL (some ⟨.slice 133,1,24,[.slice none 0 0],true⟩)) (.node none (tL (some ⟨.ptr 307,1,8,[.pointer none],true⟩)) .nil)) (tL (some ⟨.struct [(0,34,true)],5,72,[.int .i64 0,.int .i64 0,.int .i64 0,.slice none 0 0,.slice none 0 0],true⟩))) (.node none (tL Oa) (.node none .nil (tL (some ⟨.struct [(0,30,true)],1,8,[.nilFunc],true⟩))))) (.node (some ⟨.struct [(0,3,true),(1,23,true),(2,24,true)],3,56,[.int .i64 0,.slice none 0 0,.slice none 0 0],true⟩) (.node none (.node none (.node none (tL Rt) .nil) .nil) (.node (some ⟨.ptr 169,1,8,[.pointer none],true⟩) (tL Eg) (tL (some ⟨.struct [(0,3,true),(1,4,true),(2,31,true)],3,40,[.int .i64 0,.bool false,.slice none 0 0],true⟩)))) .nil)) (.node none (.node (some ⟨.slice 5,1,24,[.slice none 0 0],true⟩) (.node none .nil (.node none (tL (some ⟨.map 3 84,1,8,[.map none],true⟩)) (tL (some ⟨.slice 234,1,24,[.slice none 0 0],true⟩)))) (.node (some ⟨.struct [(0,3,true),(1,3,true),(2,3,true),(3,3,true)],4,32,[.int .i64 0,.int .i64 0,.int .i64 0,.int .i64 0],true⟩) .nil (.node none (tL Eg) .nil))) (.node Eg (.node none .nil (.node none (tL (some ⟨.slice 232,1,24,[.slice none 0 0],true⟩)) .nil)) (.node none (tL (some ⟨.int .u32,1,4,[.int .u32 0],true⟩)) (.node none (tL Eg) .nil))))))
def tT:TT:=tTr.get

set_option maxRecDepth 100000 in
theorem cEo:(tTr.all id).map (fun p=>cB Tryz.prog p.1)=(tTr.all id).map fun p=>some p.2:=by kernel_rfl
theorem aRn:∀ t i,tT t=some i→cB Tryz.prog t=some i:=fun t i h=>by
 have h1:=Tr.get_all tTr id t i h;obtain ⟨j,hj,hx⟩:=List.getElem_of_mem h1;have h2:=congrArg (fun l=>l[j]?) cEo
 simp only [jU,Av hj,hx,Option.map_some,id,Option.some.injEq] at h2
 exact h2

def okF(P:Program)(f:Nat):Bool:=match P.funcs[f]? with
 | some fn => !(fn.name == "runtime.NumGoroutine") && fn.body.isSome
 | none=>false
theorem bXk{P:Program}{f:Nat}(h:okF P f=true)(args:Array Value)(w:World):(callFunc f args).run P w = .ok (.enter f args) w:=by
 unfold okF at h
 split at h
 ·rename_i fn hf
  simp only [Cc,Bool.not_eq_true'] at h
  have hn : ¬ fn.name = "runtime.NumGoroutine" := by simpa using h.1
  have hb:¬ fn.body=none:=fun e=>by rw [e] at h;cases h.2
  unfold callFunc;simp [hf,hn,hb]
 ·cases h
def ok(f:Nat):Bool:=match Nat.ble 2 f with
 | true=>Nat.ble f 294
 | false=>false
set_option maxRecDepth 100000 in
theorem cEp:((List.range 295).drop 2).all (okF Tryz.prog)=true:=by kernel_rfl
theorem cEq:∀ f,ok f=true→∀ args w,(callFunc f args).run Tryz.prog w = .ok (.enter f args) w:=fun f h=>by
 unfold ok at h
 split at h
 ·rename_i h2
  have h2:=Nat.le_of_ble_eq_true h2;have h3:=Nat.le_of_ble_eq_true h;have:=cEp;rw [gC] at this
  refine bXk (this f ?_);rw [List.mem_iff_getElem];exact ⟨f-2,by simp;omega,by simp;omega⟩
 ·cases h
theorem mixed:Tryz.prog.follows .mixedOrders=true:=by kernel_rfl
end
section
variable {P:Program} {T:TT} {E:Env} {C C0:Cx} {M M0 M1:Mem} {w w0:World}

def bkI(ids:List Nat)(base j:Nat):Option Nat:=match ids[j]? with
 | some i=>some i
 | none=>match Nat.beq j ids.length with
  | true=>some base
  | false=>none
def oK(ids:List Nat)(base:Nat):List Nat→Mem→Option Upd
 | i::r,some o::m=>match mpO (bkI ids base) o with
  | some o'=>(oK ids base r m).map ((i,o') :: ·)
  | none=>none
 | [],[]=>some []
 | [],[some o]=>match mpO (bkI ids base) o with
  | some o'=>some [(base,o')]
  | none=>none
 | _,_=>none

theorem aKc{Io:List Nat}{base:Nat}:∀ {ids:List Nat} {m:Mem} {L:Upd},oK Io base ids m=some L→ids.Nodup→base∉ids →
  (m.length=ids.length∨m.length=ids.length+1) ∧
  ∀ (N:Mem),(∀ (p i:Nat) (o':AO),ids[p]? = some i→(bK (upds N L) i=some o'↔∃ o,m[p]? = some (some o)∧mpO (bkI Io base) o=some o')) ∧
   (m.length=ids.length+1→∀ (o':AO),(bK (upds N L) base=some o'↔∃ o,m[ids.length]? = some (some o)∧mpO (bkI Io base) o=some o')) ∧
   (m.length=ids.length→bK (upds N L) base=bK N base) ∧
   ∀ j,j∉ids→j≠base→bK (upds N L) j=bK N j
 | [],[],L,h,_,_=>by
  unfold oK at h;cases h
  refine ⟨.inl rfl,fun N=>⟨fun p i o' hp=>by simp at hp,fun h=>by simp at h,fun _=>rfl,fun _ _ _=>rfl⟩⟩
 | [],[some o],L,h,_,_=>by
  unfold oK at h
  split at h
  ·rename_i o' ho
   cases h;refine ⟨.inr rfl,fun N=>⟨fun p i o' hp=>by simp at hp,fun _ o2 => ?_,fun h=>by simp at h,fun j _ hj => ?_⟩⟩
   ·simp only [upds]
    rw [cZ,if_pos rfl];constructor
    ·intro h;cases h;exact ⟨o,rfl,ho⟩
    ·rintro ⟨o3,h3,h4⟩
     simp at h3;subst h3
     rw [ho] at h4;exact h4
   ·simp only [upds]
    rw [cZ,if_neg (Ne.symm hj)]
  ·cases h
 | i::r,some o::m,L,h,hd,hb=>by
  unfold oK at h
  split at h
  ·rename_i o' ho
   simp only [lS] at h
   obtain ⟨L',Mo,rfl⟩:=h;obtain ⟨Im,Hq⟩:=List.nodup_cons.1 hd;have B5:base≠i:=fun e=>hb (by simp [e])
   have Dr:base∉r:=fun e=>hb (Cj _ e)
   obtain ⟨q1,q2⟩:=aKc (ids:=r) Mo Hq Dr;refine ⟨by simpa using q1,fun N => ?_⟩
   obtain ⟨r1,r2,r3,r4⟩:=q2 (aW N i (some o'));refine ⟨fun p j o2 hp => ?_,fun hl o2 => ?_,fun hl => ?_,fun j hj hne => ?_⟩
   ·cases p with
    | zero =>
     simp at hp;subst hp
     simp only [upds];rw [r4 i Im (Ne.symm B5),cZ,if_pos rfl];constructor
     ·intro h;cases h;exact ⟨o,rfl,ho⟩
     ·rintro ⟨o3,h3,h4⟩
      simp at h3;subst h3
      rw [ho] at h4;exact h4
    | succ p =>
     simp only [upds];rw [List.getElem?_cons_succ] at hp
     rw [r1 p j o2 hp];rfl
   ·have:=r2 (by simpa using hl) o2
    simpa [upds] using this
   ·simp only [upds]
    rw [r3 (by simpa using hl),cZ,if_neg (Ne.symm B5)]
   ·simp only [upds]
    rw [r4 j (fun e=>hj (Cj _ e)) hne,cZ,if_neg (fun e=>hj (by simp [e]))]
  ·cases h
 | [],none::_,L,h,_,_=>by unfold oK at h;cases h
 | [],some _::_::_,L,h,_,_=>by unfold oK at h;cases h
 | _::_,[],L,h,_,_=>by unfold oK at h;cases h
 | _::_,none::_,L,h,_,_=>by unfold oK at h;cases h

theorem aEu{Io:List Nat}{base:Nat}:∀ {ids:List Nat} {m:Mem} {L:Upd},oK Io base ids m=some L→∀ (p:Nat) (o1:AO),m[p]? = some (some o1)→∃ o',mpO (bkI Io base) o1=some o'
 | [],[],L,h,p,o1,hp=>by simp at hp
 | [],[some o],L,h,p,o1,hp=>by
  unfold oK at h
  split at h
  ·rename_i hx
   cases p with
   | zero=>simp at hp;subst hp;exact ⟨_,hx⟩
   | succ p=>simp at hp
  ·cases h
 | i::r,some o::m,L,h,p,o1,hp=>by
  unfold oK at h
  split at h
  ·rename_i hx
   simp only [lS] at h
   obtain ⟨L',Mo,_⟩:=h;cases p with
   | zero=>simp at hp;subst hp;exact ⟨_,hx⟩
   | succ p=>exact aEu Mo p o1 (by simpa using hp)
  ·cases h
 | [],none::_,L,h,_,_,_=>by unfold oK at h;cases h
 | [],some _::_::_,L,h,_,_,_=>by unfold oK at h;cases h
 | _::_,[],L,h,_,_,_=>by unfold oK at h;cases h
 | _::_,none::_,L,h,_,_,_=>by unfold oK at h;cases h

def Cx.back(C C1:Cx)(ids:List Nat)(base:Nat):Cx :=
 {ι:=fun j=>match idx ids j 0 with | some p=>C1.ι p | none=>if j=base then C1.ι ids.length else C.ι j
  κ:=fun j=>match idx ids j 0 with | some p=>C1.κ p | none=>if j=base then C1.κ ids.length else C.κ j
  F:=C1.F }
theorem qW:∀ {ids:List Nat},ids.Nodup→∀ {p i:Nat} (n:Nat),ids[p]? = some i→idx ids i n=some (n+p)
 | [],_,p,i,n,h=>by simp at h
 | a::r,hd,p,i,n,h=>by
  obtain ⟨h1,h2⟩:=List.nodup_cons.1 hd;unfold idx;cases p with
  | zero=>simp at h;subst h;simp
  | succ p =>
   rw [List.getElem?_cons_succ] at h
   have hne:a≠i:=fun e=>h1 (e ▸ Bp h)
   have hb:Nat.beq a i=false:=by
    cases hq:Nat.beq a i with
    | false=>rfl
    | true=>exact absurd (Nat.eq_of_beq_eq_true hq) hne
   rw [hb];have:=qW h2 (n+1) h;simp only [this]
   congr 1;omega

theorem aMu{f:Nat→Option Nat}{C':Cx}{M':Mem}(hm:bGf f C C' M M'):∀ {l ys:List AV} {us:List Value},cN C M w l us→mpL f l=some ys→cN C' M' w ys us
 | [],ys,us,h,hr=>by cases h;simp only [mpL] at hr;cases hr;exact .nil
 | x::r,ys,us,h,hr=>by
  cases h with
  | cons _ u _ k hx hk =>
   simp only [mpL] at hr
   split at hr
   ·rename_i y hy
    simp only [lS] at hr
    obtain ⟨r',Ha,rfl⟩:=hr;exact .cons _ _ _ _ (tV hm hx hy) (aMu hm hk Ha)
   ·cases hr

theorem bXl{base:Nat}{ids:List Nat}{r y:AV}{L:Upd}{C1:Cx}{w':World}{u:Value}(hd:distinct 0 ids=true)(hb:gJ M base=true)
  (hs:rnM 0 ids (ids.map (at? M))=some M0) (hlv:∀ i∈ids,eC M i=true) (hU:oK ids base ids M1=some L) (hy:mpA (bkI ids base) r=some y)
  (hM:aO P C M w) (hF:Fr (C.rn 0 ids) M0 w C1 M1 w') (Ca:aO P C1 M1 w') (hr:Rep C1 M1 w' r u):Fr C M w (C.back C1 ids base) (upds M L) w'∧aO P (C.back C1 ids base) (upds M L) w'∧Rep (C.back C1 ids base) (upds M L) w' y u:=by
 obtain ⟨_,hnd⟩:=iS hd;obtain ⟨Cy,hmp,hsrc⟩:=rW (k:=0) hM hd hs;have hlen:M0.length=ids.length:=by have:=(aDi hs).1;simpa using this
 have hbn:base∉ids:=fun hm=>by
  obtain ⟨o,h1,_⟩:=dI (hlv _ hm);exact cM hb o h1
 obtain ⟨hl1,hup⟩:=aKc hU hnd hbn;obtain ⟨u1,u2,u3,u4⟩:=hup M;have hL:=Cy.le hF;have srcp:∀ p i,ids[p]? = some i→nL 0 ids p=some i:=fun p i h=>by simp [nL,h]
 have rnp:∀ p i,ids[p]? = some i→rnI 0 ids i=some p:=fun p i h=>by
  have:=qW hnd 0 h;unfold rnI;rw [show Nat.blt i 0=false from rfl,this,gS]
 have Dl:∀ p i,ids[p]? = some i→∃ o o0,M[i]? = some (some o)∧o.live=true∧M0[p]? = some (some o0)∧o0.live=true∧(C.rn 0 ids).ι p=C.ι i∧(C.rn 0 ids).κ p=C.κ i:=fun p i hp=>by
  obtain ⟨o,h1,h2⟩:=dI (hlv i (Bp hp));obtain ⟨o0,h3,h4⟩:=hmp.fw _ _ _ (rnp p i hp) h1;exact ⟨o,o0,h1,h2,h3,by rw [bI h4];exact h2,hmp.at_ _ _ (rnp p i hp)⟩
 have sh_of:∀ (p:Nat) (o0:AO),M0[p]? = some (some o0)→∃ i o,ids[p]? = some i∧M[i]? = some (some o)∧o.live=true∧o0.live=true∧(C.rn 0 ids).ι p=C.ι i:=fun p o0 hp=>by
  obtain ⟨hl,_⟩:=Bs.1 hp;have I2:ids[p]? = some ids[p]:=Av (by omega)
  obtain ⟨o,o1,h1,h2,h3,h4,h5,_⟩:=Dl p _ I2;rw [hp] at h3;cases h3
  exact ⟨_,o,I2,h1,h2,h4,h5⟩
 have apart:∀ (j:Nat) (o:AO) (b:Nat),j∉ids→M[j]? = some (some o)→o.live=true→C.ι j=some b→w'.heap[b]? = w.heap[b]? ∧ ¬ C1.F b∧∀ (p:Nat) (o1:AO),M1[p]? = some (some o1)→o1.live=true→C1.ι p≠some b:=fun j o b hj h1 h2 h3=>by
  have B5:=hM.lt j o b h1 h2 h3;have Mp:∀ (p:Nat) (o0:AO),M0[p]? = some (some o0)→o0.live=true→(C.rn 0 ids).ι p≠some b:=fun p o0 hp _ he=>by
   obtain ⟨i,o2,q1,q2,q3,_,q4⟩:=sh_of p o0 hp;rw [q4] at he
   have:=hM.inj j i o o2 b h1 h2 q2 q3 h3 he;subst this;exact hj (Bp q1)
  refine ⟨hF.keep b B5 Mp,fun hf => ?_,fun p o1 hp hl he => ?_⟩
  ·rcases hF.F2 b hf with q | q | ⟨p,o0,q1,q2,q3⟩
   ·exact hM.nF j o b h1 h2 h3 q
   ·omega
   ·exact Mp p o0 q1 q2 q3
  ·rcases hF.new p o1 b hp hl he with q | ⟨p0,o0,q1,q2,q3⟩
   ·omega
   ·exact Mp p0 o0 q1 q2 q3
 have ix:∀ j,(j∈ids→∃ p,idx ids j 0=some p∧ids[p]? = some j)∧(j∉ids→idx ids j 0=none):=fun j=>by
  refine ⟨fun hj => ?_,fun hj => ?_⟩
  ·obtain ⟨p,hp,he⟩:=List.mem_iff_getElem.1 hj
   have:ids[p]? = some j:=by rw [Av hp,he]
   exact ⟨p,by simpa using qW hnd 0 this,this⟩
  ·cases h1:idx ids j 0 with
   | none=>rfl
   | some p =>
    obtain ⟨_,h2⟩:=wY _ _ _ _ h1;exact absurd (Bp h2) hj
 have cls:∀ (j:Nat) (o':AO),(upds M L)[j]? = some (some o')→(∃ p o1,ids[p]? = some j∧M1[p]? = some (some o1)∧mpO (bkI ids base) o1=some o'∧(C.back C1 ids base).ι j=C1.ι p∧(C.back C1 ids base).κ j=C1.κ p) ∨
   (∃ o1,j=base∧j∉ids∧M1[ids.length]? = some (some o1)∧mpO (bkI ids base) o1=some o'∧(C.back C1 ids base).ι j=C1.ι ids.length∧(C.back C1 ids base).κ j=C1.κ ids.length) ∨
   (j∉ids∧j≠base∧M[j]? = some (some o')∧(C.back C1 ids base).ι j=C.ι j∧(C.back C1 ids base).κ j=C.κ j):=fun j o' hj=>by
  rw [← bD] at hj
  by_cases hm:j∈ids
  ·obtain ⟨p,Ib,G6⟩:=(ix j).1 hm
   obtain ⟨o1,h1,h2⟩:=(u1 p j o' G6).1 hj;exact .inl ⟨p,o1,G6,h1,h2,by simp [Cx.back,Ib],by simp [Cx.back,Ib]⟩
  ·have hn:=(ix j).2 hm
   by_cases hjb:j=base
   ·subst hjb
    rcases hl1 with hl | hl
    ·rw [u3 hl] at hj
     have:=cM hb o';exact absurd (bD.1 hj) this
    ·obtain ⟨o1,h1,h2⟩:=(u2 hl o').1 hj
     exact .inr (.inl ⟨o1,rfl,hm,h1,h2,by simp [Cx.back,hn],by simp [Cx.back,hn]⟩)
   ·rw [u4 j hm hjb] at hj
    exact .inr (.inr ⟨hm,hjb,bD.1 hj,by simp [Cx.back,hn,hjb],by simp [Cx.back,hn,hjb]⟩)
 have Hm:Fr C M w (C.back C1 ids base) (upds M L) w':=by
  refine ⟨hF.os,hF.tape,hF.out,hF.size,fun b B5 hn => ?_,fun i o ho => ?_,fun i o ho ty n cs hx => ?_,fun i o ho o' hx hl => ?_,fun j o b hj hl hjb => ?_,fun b hb=>hF.F1 b hb,fun b hb => ?_⟩
  ·exact hF.keep b B5 fun p o0 hp hl he=>by
    obtain ⟨i,o2,q1,q2,q3,_,q4⟩:=sh_of p o0 hp;rw [q4] at he
    exact hn i o2 q2 q3 he
  ·by_cases hm:i∈ids
   ·obtain ⟨p,Ib,G6⟩:=(ix i).1 hm
    obtain ⟨_,o0,_,_,h3,h4,h5,h6⟩:=Dl p i G6;obtain ⟨⟨o1,q1⟩,q2,q3⟩:=hF.ids p o0 h3;refine ⟨?_,by simp only [Cx.back,Ib];rw [q2,h5],by simp only [Cx.back,Ib];rw [q3,h6]⟩
    have hq:∃ o',mpO (bkI ids base) o1=some o':=by
     exact aEu hU p o1 q1
    obtain ⟨o',hq⟩:=hq;exact ⟨o',bD.1 ((u1 p i o' G6).2 ⟨o1,q1,hq⟩)⟩
   ·have hne:i≠base:=fun e=>by subst e;exact cM hb o ho
    refine ⟨⟨o,bD.1 (by rw [u4 i hm hne];exact bD.2 ho)⟩,by simp [Cx.back,(ix i).2 hm,hne],by simp [Cx.back,(ix i).2 hm,hne]⟩
  ·rcases cls i _ hx with ⟨p,o1,q1,q2,q3,_⟩ | ⟨o1,rfl,_⟩ | ⟨_,_,q3,_⟩
   ·rw [lK q3] at q2
    obtain ⟨o2,o0,h1,_,h3,_⟩:=Dl p i q1;obtain ⟨Bl,h5⟩:=hF.row p o0 h3 _ _ _ q2;obtain ⟨o4,h6,h7⟩:=hmp.bk _ _ _ (rnp p i q1) h5;rw [lK h7] at h6
    exact ⟨Bl,h6⟩
   ·exact absurd ho (cM hb o)
   ·exact ⟨cs,q3⟩
  ·rcases cls i _ hx with ⟨p,o1,q1,q2,q3,_⟩ | ⟨o1,rfl,_⟩ | ⟨_,_,q3,_⟩
   ·obtain ⟨o2,o0,h1,h2,h3,_⟩:=Dl p i q1
    rw [ho] at h1;cases h1
    exact h2
   ·exact absurd ho (cM hb o)
   ·rw [ho] at q3;cases q3;exact hl
  ·have fin:∀ (p:Nat) (o1:AO),M1[p]? = some (some o1)→o1.live=true→C1.ι p=some b→w.heap.size≤b∨∃ (Ho:Nat) (o0:AO),M[Ho]? = some (some o0)∧o0.live=true∧C.ι Ho=some b:=fun p o1 h1 h2 h3=>by
    rcases hF.new p o1 b h1 h2 h3 with q | ⟨p0,o0,q1,q2,q3⟩
    ·exact .inl q
    ·obtain ⟨i,o2,r1,r2,r3,_,r4⟩:=sh_of p0 o0 q1
     rw [r4] at q3
     exact .inr ⟨i,o2,r2,r3,q3⟩
   rcases cls j _ hj with ⟨p,o1,q1,q2,q3,q4,_⟩ | ⟨o1,rfl,_,q2,q3,q4,_⟩ | ⟨_,_,q3,q4,_⟩
   ·rw [q4] at hjb
    exact fin p o1 q2 (by rw [← bI q3];exact hl) hjb
   ·rw [q4] at hjb
    exact fin _ o1 q2 (by rw [← bI q3];exact hl) hjb
   ·rw [q4] at hjb
    exact .inr ⟨j,o,q3,hl,hjb⟩
  ·rcases hF.F2 b hb with q | q | ⟨p,o0,q1,q2,q3⟩
   ·exact .inl q
   ·exact .inr (.inl q)
   ·obtain ⟨i,o2,r1,r2,r3,_,r4⟩:=sh_of p o0 q1
    rw [r4] at q3
    exact .inr (.inr ⟨i,o2,r2,r3,q3⟩)
 have Eu:=hM.le Hm;have hbk:bGf (bkI ids base) C1 (C.back C1 ids base) M1 (upds M L):=by
  have two:∀ i j,bkI ids base i=some j→(ids[i]? = some j)∨(i=ids.length∧j=base):=fun i j h=>by
   unfold bkI at h
   split at h
   ·rename_i hi;cases h;exact .inl hi
   ·split at h
    ·rename_i hq;cases h;exact .inr ⟨Nat.eq_of_beq_eq_true hq,rfl⟩
    ·cases h
  have big:∀ (o:AO),M1[ids.length]? = some (some o)→M1.length=ids.length+1:=fun o h=>by
   obtain ⟨hl,_⟩:=Bs.1 h;omega
  refine ⟨fun i j o' hij hj => ?_,fun i j o hij hi => ?_,fun i j hij => ?_,fun _ h=>h⟩
  ·rcases two i j hij with h1 | ⟨rfl,rfl⟩
   ·exact (u1 i j o' h1).1 (bD.2 hj)
   ·rcases hl1 with hl | hl
    ·have:=bD.2 hj
     rw [u3 hl] at this
     exact absurd (bD.1 this) (cM hb o')
    ·exact (u2 hl o').1 (bD.2 hj)
  ·have hq:∃ o',mpO (bkI ids base) o=some o':=by
    exact aEu hU i o hi
   obtain ⟨o',hq⟩:=hq
   rcases two i j hij with h1 | ⟨rfl,rfl⟩
   ·exact ⟨o',bD.1 ((u1 i j o' h1).2 ⟨o,hi,hq⟩),hq⟩
   ·exact ⟨o',bD.1 ((u2 (big o hi) o').2 ⟨o,hi,hq⟩),hq⟩
  ·rcases two i j hij with h1 | ⟨rfl,rfl⟩
   ·have:=qW hnd 0 h1
    rw [gS] at this
    simp [Cx.back,this]
   ·simp [Cx.back,(ix _).2 hbn]
 refine ⟨Hm,⟨fun j ty n cs h => ?_,fun j ty cs h => ?_,fun j es cl h => ?_,fun j j' o1 o2 b q1 l1 q2 l2 e1 e2 => ?_,fun j o b h hl hb => ?_,Ca.Fs,fun j o b h hl hb => ?_⟩,tV hbk hr hy⟩
 ·rcases cls j _ h with ⟨p,o1,q1,q2,q3,q4,q5⟩ | ⟨o1,rfl,_,q2,q3,q4,q5⟩ | ⟨q1,_,q3,q4,q5⟩
  ·rw [lK q3] at q2
   rw [q4,q5];exact Ca.row _ _ _ _ q2
  ·rw [lK q3] at q2
   rw [q4,q5];exact Ca.row _ _ _ _ q2
  ·rw [q4,q5]
   rcases hM.row _ _ _ _ q3 with q | ⟨b,arr,inf,p0,p1,p2,p3,p4,p5,p6,p7,p8⟩
   ·exact .inl q
   ·exact .inr ⟨b,arr,inf,p0,by rw [(apart j _ b q1 q3 rfl p0).1];exact p1,p2,p3,p4,p5,p6,fun i hi=>(p7 i hi).mono Eu.F Eu.fz,p8⟩
 ·rcases cls j _ h with ⟨p,o1,q1,q2,q3,q4,q5⟩ | ⟨o1,rfl,_,q2,q3,q4,q5⟩ | ⟨q1,_,q3,q4,q5⟩
  ·cases o1 with
   | box Cr l =>
    simp only [mpO,lS] at q3
    obtain ⟨l',Ea,e⟩:=q3;cases e;obtain ⟨b,arr,p0,p1,p2,p3,p4⟩:=Ca.box _ _ _ q2;obtain ⟨n1,n2⟩:=fY hbk (w:=w') (us:=fun j=>arr.getD j undef) p3 Ea
    exact ⟨b,arr,by rw [q4];exact p0,p1,by omega,n2,fun j hj=>p4 j (by omega)⟩
   | row=>simp [mpO] at q3
   | mp=>simp [mpO] at q3
   | pk=>simp [mpO] at q3
   | dead=>simp [mpO] at q3
  ·cases o1 with
   | box Cr l =>
    simp only [mpO,lS] at q3
    obtain ⟨l',Ea,e⟩:=q3;cases e;obtain ⟨b,arr,p0,p1,p2,p3,p4⟩:=Ca.box _ _ _ q2;obtain ⟨n1,n2⟩:=fY hbk (w:=w') (us:=fun j=>arr.getD j undef) p3 Ea
    exact ⟨b,arr,by rw [q4];exact p0,p1,by omega,n2,fun j hj=>p4 j (by omega)⟩
   | row=>simp [mpO] at q3
   | mp=>simp [mpO] at q3
   | pk=>simp [mpO] at q3
   | dead=>simp [mpO] at q3
  ·obtain ⟨b,arr,p0,p1,p2,p3,p4⟩:=hM.box _ _ _ q3
   exact ⟨b,arr,by rw [q4];exact p0,by rw [(apart j _ b q1 q3 rfl p0).1];exact p1,p2,fun i hi=>(p3 i hi).mono Eu,p4⟩
 ·rcases cls j _ h with ⟨p,o1,q1,q2,q3,q4,q5⟩ | ⟨o1,rfl,_,q2,q3,q4,q5⟩ | ⟨q1,_,q3,q4,q5⟩
  ·cases o1 with
   | mp Cs D1 =>
    simp only [mpO,Option.some.injEq] at q3
    cases q3;obtain ⟨b,arr,p0,p1,p2,p3⟩:=Ca.mp _ _ _ q2;refine ⟨b,arr,by rw [q4];exact p0,p1,p2,fun j hj => ?_⟩
    obtain ⟨en,s1,s2,s3,s4⟩:=p3 j hj;exact ⟨en,s1,s2,s3,s4.mono hbk.F (fun _ _=>rfl)⟩
   | row=>simp [mpO] at q3
   | box=>simp [mpO] at q3
   | pk=>simp [mpO] at q3
   | dead=>simp [mpO] at q3
  ·cases o1 with
   | mp Cs D1 =>
    simp only [mpO,Option.some.injEq] at q3
    cases q3;obtain ⟨b,arr,p0,p1,p2,p3⟩:=Ca.mp _ _ _ q2;refine ⟨b,arr,by rw [q4];exact p0,p1,p2,fun j hj => ?_⟩
    obtain ⟨en,s1,s2,s3,s4⟩:=p3 j hj;exact ⟨en,s1,s2,s3,s4.mono hbk.F (fun _ _=>rfl)⟩
   | row=>simp [mpO] at q3
   | box=>simp [mpO] at q3
   | pk=>simp [mpO] at q3
   | dead=>simp [mpO] at q3
  ·obtain ⟨b,arr,p0,p1,p2,p3⟩:=hM.mp _ _ _ q3
   refine ⟨b,arr,by rw [q4];exact p0,by rw [(apart j _ b q1 q3 rfl p0).1];exact p1,p2,fun i hi => ?_⟩
   obtain ⟨en,s1,s2,s3,s4⟩:=p3 i hi;exact ⟨en,s1,s2,s3,s4.mono Eu.F Eu.fz⟩
 ·rcases cls j _ q1 with ⟨p,a1,r1,r2,r3,r4,_⟩ | ⟨a1,rfl,r1,r2,r3,r4,_⟩ | ⟨r1,rb,r3,r4,_⟩ <;> rcases cls j' _ q2 with ⟨p',a2,t1,t2,t3,t4,_⟩ | ⟨a2,rfl,t1,t2,t3,t4,_⟩ | ⟨t1,tb,t3,t4,_⟩
  all_goals try rfl
  all_goals (rw [r4] at e1;rw [t4] at e2)
  ·have:=Ca.inj p p' a1 a2 b r2 (by rw [← bI r3];exact l1) t2 (by rw [← bI t3];exact l2) e1 e2
   subst this;rw [r1] at t1;cases t1;rfl
  ·have:=Ca.inj p _ a1 a2 b r2 (by rw [← bI r3];exact l1) t2 (by rw [← bI t3];exact l2) e1 e2
   obtain ⟨hl,_⟩:=Bs.1 r1;omega
  ·exact absurd e1 ((apart j' o2 b t1 t3 l2 e2).2.2 p a1 r2 (by rw [← bI r3];exact l1))
  ·have:=Ca.inj _ p' a1 a2 b r2 (by rw [← bI r3];exact l1) t2 (by rw [← bI t3];exact l2) e1 e2
   obtain ⟨hl,_⟩:=Bs.1 t1;omega
  ·exact absurd e1 ((apart j' o2 b t1 t3 l2 e2).2.2 _ a1 r2 (by rw [← bI r3];exact l1))
  ·exact absurd e2 ((apart j o1 b r1 r3 l1 e1).2.2 p' a2 t2 (by rw [← bI t3];exact l2))
  ·exact absurd e2 ((apart j o1 b r1 r3 l1 e1).2.2 _ a2 t2 (by rw [← bI t3];exact l2))
  ·exact hM.inj j j' o1 o2 b r3 l1 t3 l2 e1 e2
 ·rcases cls j _ h with ⟨p,o1,q1,q2,q3,q4,q5⟩ | ⟨o1,rfl,_,q2,q3,q4,q5⟩ | ⟨q1,_,q3,q4,q5⟩
  ·rw [q4] at hb
   exact Ca.nF _ _ b q2 (by rw [← bI q3];exact hl) hb
  ·rw [q4] at hb
   exact Ca.nF _ _ b q2 (by rw [← bI q3];exact hl) hb
  ·rw [q4] at hb
   exact (apart j o b q1 q3 hl hb).2.1
 ·rcases cls j _ h with ⟨p,o1,q1,q2,q3,q4,q5⟩ | ⟨o1,rfl,_,q2,q3,q4,q5⟩ | ⟨q1,_,q3,q4,q5⟩
  ·rw [q4] at hb
   exact Ca.lt _ _ b q2 (by rw [← bI q3];exact hl) hb
  ·rw [q4] at hb
   exact Ca.lt _ _ b q2 (by rw [← bI q3];exact hl) hb
  ·rw [q4] at hb
   exact fU (hM.lt j o b q3 hl hb) hF.size

theorem aXh{f base:Nat}{ids:List Nat}{args Bg:List AV}{r y:AV}{L:Upd}(hd:distinct 0 ids=true)(hb:gJ M base=true)
  (hs:rnM 0 ids (ids.map (at? M))=some M0) (hlv:∀ i∈ids,eC M i=true) (ha:rnL 0 ids args=some Bg) (hU:oK ids base ids M1=some L) (hy:mpA (bkI ids base) r=some y)
  (h:FMM P f Bg M0 r M1):FM P f args M y L:=by
 intro C w us hus hM n;obtain ⟨Cy,hmp,_⟩:=rW (k:=0) hM hd hs;refine (h (C.rn 0 ids) w us (aMu hmp hus ha) Cy n).mono ?_;rintro e w' ⟨u,rfl,C1,hF,Ca,hr⟩;exact ⟨u,rfl,C.back C1 ids base,bXl hd hb hs hlv hU hy hM hF Ca hr⟩
def shown(ids:List Nat)(base:Nat)(args:List AV)(bs:Upd)(M1:Mem)(r:AV):Option (List AV × Mem × AV × Upd):=match distinct 0 ids && ids.all (eC (upds [] bs)) with
 | true=>match rnM 0 ids (ids.map (at? (upds [] bs))) with
  | some M0=>match rnL 0 ids args with
   | some Bg=>match oK ids base ids M1 with
    | some L=>match mpA (bkI ids base) r with
     | some y=>some (Bg,M0,y,L)
     | none=>none
    | none=>none
   | none=>none
  | none=>none
 | false=>none
theorem FMM.fc{f base:Nat}{ids:List Nat}{args Bg:List AV}{bs:Upd}{r y:AV}{L:Upd}(h:FMM P f Bg M0 r M1)(hs:shown ids base args bs M1 r=some (Bg,M0,y,L)):FC P f args bs base y L:=fun M hb hf _=>by
 unfold shown at hs
 have hsub:aVl (upds [] bs) M:=fun id o ho=>by
  rcases rU bs [] id o ho with h5 | h5
  ·exact hb _ h5
  ·simp [bK] at h5
 split at hs
 ·rename_i hd
  rw [Cc,gC] at hd
  have hlv:∀ i∈ids,∃ o,bK (upds [] bs) i=some o∧bK M i=some o∧o.live=true:=fun i hi=>by
   obtain ⟨o,h1,h2⟩:=dI (hd.2 i hi);exact ⟨o,bD.2 h1,hsub _ _ (bD.2 h1),h2⟩
  split at hs
  ·rename_i h1
   split at hs
   ·rename_i h2
    split at hs
    ·rename_i h3
     split at hs
     ·rename_i h4
      cases hs;have he:ids.map (at? M)=ids.map (at? (upds [] bs)):=xW fun i hi=>by
       obtain ⟨o,q1,q2,_⟩:=hlv i hi;unfold at?
       rw [q1,q2]
      refine aXh hd.1 hf (by rw [he];exact h1) (fun i hi => ?_) h2 h3 h4 h
      obtain ⟨o,_,q2,q3⟩:=hlv i hi;exact jC (bD.1 q2) q3
     ·cases hs
    ·cases hs
   ·cases hs
  ·cases hs
 ·cases hs

theorem aRo{id ty n:Nat}{cs:List PV}(hM:aO P C M w)(ho:M[id]? = some (some (.row ty n cs))):∀ {l:List AV} {us:List Value},cN C M w l us→cN (C.close id true) (aW M id (some .dead)) w (fzL id n cs l) us
 | [],us,h=>by cases h;simp only [fzL];exact .nil
 | x::r,us,h=>by
  cases h with
  | cons _ u _ k hx hr =>
   simp only [fzL];exact .cons _ _ _ _ (aJg hM ho hx) (aRo hM ho hr)
theorem FM.close1{f id ty n:Nat}{cs:List PV}{args:List AV}{y:AV}{L:Upd}(ho:bK M id=some (.row ty n cs))(h:FM P f (fzL id n cs args) (aW M id (some .dead)) y L):FM P f args M y ((id,.dead)::L):=fun C w us hus hM k=>by
 have ho:=bD.1 ho;have fk:=cX (C:=C) (w:=w) true ho rfl;refine (h _ w us (aRo hM ho hus) (pN hM true ho rfl) k).mono ?_;rintro e w' ⟨u,rfl,C',hF,G4,hr⟩;exact ⟨u,rfl,C',fk.trans hF,G4,hr⟩
def aEv(bs:Upd):List Nat→List AV→Option (List AV)
 | [],args=>match jD args with
  | true=>some args
  | false=>none
 | id::r,args=>match bK (upds [] bs) id with
  | some (.row _ n cs)=>match r.all (fun j => !Nat.beq j id) with
   | true=>aEv bs r (fzL id n cs args)
   | false=>none
  | _=>none
def kills:List Nat→Upd→Upd
 | [],L=>L
 | id::r,L=>(id,.dead)::kills r L
theorem aKd{f base:Nat}{bs:Upd}{y:AV}{L:Upd}:∀ {ids:List Nat} {M:Mem} {args A9:List AV},aEv bs ids args=some A9→(∀ id∈ids,∀ o,bK (upds [] bs) id=some o→bK M id=some o)→gJ M base=true→FV P f A9 base y L→FM P f args M y (kills ids L)
 | [],M,args,A9,hc,_,hf,h=>by
  unfold aEv at hc
  split at hc
  ·rename_i hn
   cases hc;obtain ⟨r,M1,h1,h2⟩:=h;exact zD (.inl ⟨hn,rfl⟩) hf h2 h1
  ·cases hc
 | id::r,M,args,A9,hc,hb,hf,h=>by
  unfold aEv at hc
  split at hc
  ·rename_i ty n cs ho
   split at hc
   ·rename_i hd
    have hoM:=hb id (iN ..) _ ho;refine FM.close1 hoM (aKd hc (fun j hj o hjo => ?_) ?_ h)
    ·have hne:j≠id:=fun e=>by
      have:=gC.1 hd j hj;subst e;simp at this
     rw [cZ,if_neg (Ne.symm hne)];exact hb j (Cj _ hj) o hjo
    ·have hne:id≠base:=fun e=>by
      subst e;exact cM hf _ (bD.1 hoM)
     unfold gJ at hf ⊢
     rw [cZ,if_neg hne];exact hf
   ·cases hc
  ·cases hc
theorem FV.close{f base:Nat}{ids:List Nat}{args A9:List AV}{y:AV}{L bs:Upd}(h:FV P f A9 base y L)(hc:aEv bs ids args=some A9):FC P f args bs base y (kills ids L):=fun M hb hf _=>by
 refine aKd hc (fun id _ o ho => ?_) hf h
 rcases rU bs [] id o ho with h5 | h5
 ·exact hb _ h5
 ·simp [bK] at h5

def unA:AV→AV
 | .tup l => .tup (l.map un)
 | x=>un x
theorem bXm{x:AV}{u:Value}(h:Rep C M w x u):Rep C M w (unA x) u:=by
 cases h with
 | tup cs vs h1 h2 =>
  refine .tup _ _ (by simpa using h1) (fun i hi => ?_)
  simp only [mL];exact bQv (h2 i (by simpa using hi))
 | p x u h=>exact .p _ _ h
 | any u=>exact .any u
 | kb b=>exact bQv (.kb b)
 | yld l=>exact .yld l
 | own id u h0 ha h=>exact .own id u h0 ha h
 | arr id off n u h0 ha h=>exact .arr id off n u h0 ha h
 | ptr id off u h0 ha h hp=>exact .ptr id off u h0 ha h hp
 | mp id u h0 ha h=>exact .mp id u h0 ha h
 | pa id q u h0 ha h=>exact .pa id q u h0 ha h
 | rp cs off b o us h1 h2 h3=>exact .rp cs off b o us h1 h2 h3
 | agg cs vs h0 h1 h2=>exact .agg cs vs h0 h1 h2
 | fn f cs ds us vs h1 h2 h3 h4=>exact .fn f cs ds us vs h1 h2 h3 h4
theorem vP.un{f:Nat}{args:List AV}{M M1:Mem}{r:AV}(h:vP P f args M r M1):vP P f args M (unA r) M1:=fun C w us hus hM n=>by
 refine (h C w us hus hM n).mono ?_;rintro e w' ⟨u,rfl,C1,hF,Ca,hr,hP⟩;exact ⟨u,rfl,C1,hF,Ca,bXm hr,hP⟩

def bXn(k:Nat)(g:Gh)(x:Option ((AV × Mem) × AS)):Option (AV × Mem × List Prop × List OI):=match x with
 | some ((r,M1),s)=>match gh k g ⟨[unA r],M1⟩ with
  | some ⟨[r'],M'⟩=>some (r',M',s.obs,s.o)
  | _=>none
 | none=>none
theorem vP.gh{f k:Nat}{args:List AV}{M M1 M':Mem}{r r':AV}{g:Gh}(hk:M.length≤k)(h:vP P f args M r M1)(hg:KV.gh k g ⟨[r],M1⟩=some ⟨[r'],M'⟩):vP P f args M r' M':=fun C w us hus hM n=>by
 refine (h C w us hus hM n).mono ?_;rintro e w' ⟨u,rfl,C1,hF,Ca,hr,hP⟩;have hs:Sim P (C.with []) M w ⟨[r],M1⟩ { tmps := #[u],defers:=[] } w':=⟨C1,⟨rfl,fun i hi=>by
  obtain rfl:i=0:=by simpa using hi
  exact hr⟩,Ca,hF.based [],⟨[],rfl,.nil,fun D h=>by simp at h⟩,fun p hp=>(by cases hp),hP⟩
 obtain ⟨C2,hS,I9,Hm,_,_,Vg⟩:=fD hk hg hs;exact ⟨u,rfl,C2,Hm.unbased,I9,hS.rep 0 (by simp),Vg⟩
end
section
/-- numbers, by runs -/
def rng:List (Nat × Nat)→List Nat
 | []=>[]
 | (a,n)::r=>List.range' a n++rng r

abbrev aA(n:Int):PV := .v (.int .i64 n)
abbrev blP(b:Bool):PV := .v (.bool b)
abbrev aE(l:List Int):PV := .sl l.length (l.map aA)
abbrev aV(l:Lqq):PV := .sl l.length (l.map aE)
abbrev cR:PV := .v (.slice none 0 0)

def EO:Env:=⟨fun _ _ _ _=>none,ok⟩
theorem aRm:nA Tp EO:=⟨fun _ _ _ _ _ _ h=>(by cases h),cEq⟩

def cd(f:Func):Code:=f.body.getD .skip
def sub:Code→List Nat→Code
 | c,[]=>c
 | .seq a b,i::r=>match i with | 0=>sub a r | _=>sub b r
 | .cond _ a b,i::r=>match i with | 0=>sub a r | _=>sub b r
 | .block _ b,_::r=>sub b r
 | .loop b,_::r=>sub b r
 | .scope b,_::r=>sub b r
 | .rangeFunc _ _ a b,i::r=>match i with | 0=>sub a r | _=>sub b r
 | _,_::_ => .skip
def look:List (Nat × AV)→Nat→AV
 | [],_ => .any
 | (i,x)::r,k=>match Nat.beq i k with
  | true=>x
  | false=>look r k
def frm(l:List (Nat × AV)):Nat→Nat→List AV
 | 0,_=>[]
 | n+1,k=>look l k::frm l n (k+1)
abbrev fr(n:Nat)(l:List (Nat × AV)):List AV:=frm l n 0

abbrev asg(o:List OI):AS:=⟨false,o,[]⟩
abbrev out(l:List Prop):AS:=⟨false,[],l⟩
theorem gn:aY (out []):=fun _ h=>by simp at h
theorem gc{p:Prop}{l:List Prop}(hp:p)(h:aY (out l)):aY (out (p::l)):=fun q hq=>by
 rcases gK.1 hq with rfl | hq
 ·exact hp
 ·exact h q hq

def cEn(base:Nat)(x:Option ((AV × Mem) × AS)):Option (AV × Upd × List Prop × List OI):=match x with
 | some ((r,M1),s)=>match aPp M1 base (unA r) with
  | some (y,L)=>some (y,L,s.obs,s.o)
  | none=>none
 | none=>none
theorem FV.fin{f base:Nat}{fn:Func}{args:List AV}{y:AV}{L:Upd}{o:List OI}{l:List Prop}(hf:Tryz.prog.funcs[f]? = some fn)(hb:fn.body.isSome=true)
  (h:cEn base (aVo Tp tT EO 0 fn (cd fn) args [] (asg o))=some (y,L,l,[])) (g:aY (out l)):FV Tp f args base y L:=by
 unfold cEn at h
 split at h
 ·rename_i r M1 s hr
  split at h
  ·rename_i y' L' ho
   simp only [Option.some.injEq,Prod.mk.injEq] at h
   obtain ⟨rfl,rfl,rfl,hs⟩:=h;refine ⟨unA r,M1,(vP.un (aAx aRn aRm mixed hf ?_ hr (fun p hp=>g p hp))).fmm,ho⟩
   unfold cd;cases h1:fn.body with
   | none=>rw [h1] at hb;cases hb
   | some c=>rfl
  ·cases h
 ·cases h
def aMt(k:Nat)(g:Gh)(x:Option ((Ex × St) × AS)):Option (Ex × St × List Prop × List OI):=match x with
 | some ((e,st1),s)=>match gh k g st1 with
  | some Am=>some (e,Am,s.obs,s.o)
  | none=>none
 | none=>none
theorem aB.fin{k:Nat}{c:Code}{st Am:St}{e:Ex}{g:Gh}{o:List OI}{l:List Prop}(h:aMt k g (aCb Tp tT EO k 0 c st (asg o))=some (e,Am,l,[]))(gd:aY (out l)):aB Tp k c st e Am:=by
 unfold aMt at h
 split at h
 ·rename_i e1 st1 s hr
  split at h
  ·rename_i st2 hg
   simp only [Option.some.injEq,Prod.mk.injEq] at h
   obtain ⟨rfl,rfl,rfl,hs⟩:=h;exact (aDh aRn aRm mixed c hr (fun p hp=>gd p hp)).post hg
  ·cases h
 ·cases h
theorem vP.fin{f k:Nat}{fn:Func}{args:List AV}{M M':Mem}{r:AV}{g:Gh}{o:List OI}{l:List Prop}(hk:M.length=k)(hf:Tryz.prog.funcs[f]? = some fn)(hb:fn.body.isSome=true)
  (h:bXn k g (aVo Tp tT EO 0 fn (cd fn) args M (asg o))=some (r,M',l,[])) (gd:aY (out l)):vP Tp f args M r M':=by
 unfold bXn at h
 split at h
 ·rename_i r1 M1 s hr
  split at h
  ·rename_i r2 M2 hg
   simp only [Option.some.injEq,Prod.mk.injEq] at h
   obtain ⟨rfl,rfl,rfl,hs⟩:=h;refine vP.gh (Nat.le_of_eq hk) (vP.un (aAx aRn aRm mixed hf ?_ hr (fun p hp=>gd p hp))) hg
   unfold cd;cases h1:fn.body with
   | none=>rw [h1] at hb;cases hb
   | some c=>rfl
  ·cases h
 ·cases h
theorem FMM.fin{f k:Nat}{fn:Func}{args:List AV}{M M':Mem}{r:AV}{g:Gh}{o:List OI}{l:List Prop}(hk:M.length=k)(hf:Tryz.prog.funcs[f]? = some fn)(hb:fn.body.isSome=true)
  (h:bXn k g (aVo Tp tT EO 0 fn (cd fn) args M (asg o))=some (r,M',l,[])) (gd:aY (out l)):FMM Tp f args M r M':=(vP.fin hk hf hb h gd).fmm
theorem FV.frz{P:Program}{f base:Nat}{args:List AV}{y:AV}(h:FMM P f args [] y [])(ho:aPp [] base y=some (y,[])):FV P f args base y []:=⟨y,[],h,ho⟩
theorem aB.cast{P:Program}{k:Nat}{c:Code}{st st1 Am:St}{e:Ex}(h:aB P k c st e st1)(he:st1=Am):aB P k c st e Am:=he ▸ h
def cD(st:St)(l:List (Nat × AV)):St:=⟨l.foldl (fun t p=>t.set p.1 p.2) st.t,st.m⟩

theorem cT{x y:Int}(h:x=y):(x == y)=true:=by simpa using h
theorem bE{x y:Int}(h:x≠y):(x == y)=false:=by simpa using h
theorem kS{x y:Int}(h:x≠y):(x != y)=true:=by simpa using h
theorem fW{x y:Int}(h:x=y):(x != y)=false:=by simpa using h
theorem bG{x y:Int}(h:x<y):decide (x<y)=true:=by simpa using h
theorem aQ{x y:Int}(h:y≤x):decide (x<y)=false:=by simpa using h
theorem aCh{x y:Int}(h:x≤y):decide (x≤y)=true:=by simpa using h
theorem kT{x y:Int}(h:y<x):decide (x≤y)=false:=by simpa using h
theorem cA{b:Bool}(h:b=false):(!b)=true:=by simpa using h
theorem aL{b:Bool}(h:b=true):(!b)=false:=by simpa using h

theorem dF{α:Type}{g:α→PV}{l:List α}{i:Nat}{x:α}(h:l[i]? = some x):(l.map g)[i*1]? = some (g x):=by rw [Nat.mul_one,jU,h];rfl
theorem jE{α:Type}{g:α→PV}{l:List α}{i:Int}{x:α}(h0:0≤i)(h:l[i.toNat]? = some x):0≤i∧i<(l.length:Int)∧i.toNat*1<(l.map g).length:=by
 obtain ⟨h1,_⟩:=Bs.1 h;refine ⟨h0,by omega,by simpa using h1⟩
theorem aX{α:Type}{l:List α}{i:Int}{x:α}(h0:0≤i)(h:l[i.toNat]? = some x):0≤i∧i<(l.length:Int):=by
 obtain ⟨h1,_⟩:=Bs.1 h;exact ⟨h0,by omega⟩
theorem fk{P:Program}{f:Nat}{args:List AV}{y:AV}{L:Upd}(base:Nat)(h:FV P f args base y L)(hn:jD args=true):FC P f args [] base y L:=h.fc hn
theorem fv{P:Program}{f base:Nat}{args A9:List AV}{y:AV}{L:Upd}{bs:List (Nat × AO)}(h:FV P f A9 base y L)(hv:nU (upds [] bs) args=some A9:=by kernel_rfl)(h1:bGa y=true:=by kernel_rfl)(h2:aPq L=true:=by kernel_rfl):FC P f args bs base y L:=h.view hv h1 h2
theorem ixn{α:Type}{l:List α}{i:Nat}{x:α}(g:α→PV)(h:l[i]? = some x):0≤(i:Int)∧(i:Int)<(l.length:Int)∧(i:Int).toNat*1<(l.map g).length:=jE (C7 _) (by rwa [aHy])
theorem atm{α:Type}{l:List α}{i:Nat}{x:α}(g:α→PV)(h:l[i]? = some x):(l.map g)[i*1]? = some (g x):=dF h
abbrev bF:OI := .b false
abbrev bT:OI := .b true
abbrev pI (n:Int):AV:=.p (aA n)
abbrev pB (b:Bool):AV:=.p (blP b)
abbrev fS (l:Lqq):PV:=.sl l.length (l.flatten.map aA)
theorem Az {p:Prop}{l:List Prop}(hp:p)(h:aY (out l)):aY (out (p::p::l)):=gc hp (gc hp (h))
theorem Ay {p:Prop}{l:List Prop}(hp:p)(h:aY (out l)):aY (out (p::p::p::l)):=gc hp (gc hp (gc hp (h)))
theorem A4 {p:Prop}{l:List Prop}(hp:p)(h:aY (out l)):aY (out (p::p::p::p::l)):=gc hp (gc hp (gc hp (gc hp (h))))
theorem Cf {p:Prop}{l:List Prop}(hp:p)(h:aY (out l)):aY (out (p::p::p::p::p::l)):=gc hp (gc hp (gc hp (gc hp (gc hp (h)))))
theorem Lr {p:Prop}{l:List Prop}(hp:p)(h:aY (out l)):aY (out (p::p::p::p::p::p::l)):=gc hp (gc hp (gc hp (gc hp (gc hp (gc hp (h))))))
theorem Et {p:Prop}{l:List Prop}(hp:p)(h:aY (out l)):aY (out (p::p::p::p::p::p::p::l)):=gc hp (gc hp (gc hp (gc hp (gc hp (gc hp (gc hp (h)))))))
theorem Ia {p:Prop}{l:List Prop}(hp:p)(h:aY (out l)):aY (out (p::p::p::p::p::p::p::p::l)):=gc hp (gc hp (gc hp (gc hp (gc hp (gc hp (gc hp (gc hp (h))))))))
theorem gt (p:Prop){l:List Prop}(hp:p)(h:aY (out l)):aY (out (p::l)):=gc hp h
theorem gr (v:PV){l:List Prop}(h:aY (out l)):aY (out ((some v=some v)::l)):=gc rfl h
theorem gf{l:List Prop}(h:aY (out l)):aY (out ((false=false)::l)):=gc rfl h
def FC.o{P:Program}{f:Nat}{args:List AV}{bs:List (Nat × AO)}{base:Nat}{y:AV}{L:Upd}(_:FC P f args bs base y L):OI:=.c y L
def aF.k{P:Program}{k:Nat}{c:Code}{st Am:St}{e:Ex}(_:aF P k c st e Am)(n:Nat)(g:Gh):OI:=.k n g e Am
def aB.k{P:Program}{k:Nat}{c:Code}{st Am:St}{e:Ex}(_:aB P k c st e Am)(n:Nat)(g:Gh):OI:=.k n g e Am
def qI(ids:List Nat)(base:Nat)(x:AV):AV:=(mpA (bkI ids base) x).getD .any
def qM(f:Nat→Option Nat):List Nat→Mem→Upd
 | i::r,some o::M=>match mpO f o with
  | some q=>(i,q)::qM f r M
  | none=>[]
 | i::r,none::M=>qM f r M
 | _,_=>[]
def qS(ids:List Nat)(f:Nat→Option Nat)(args:List AV)(M:Mem):Upd:=blocks (upds [] (qM f ids M)) (clos (upds [] (qM f ids M)) (vW args))
theorem mq(ids:List Nat)(base:Nat){P:Program}{f:Nat}{Bg:List AV}{M0 M1:Mem}{r:AV}(h:FMM P f Bg M0 r M1)(hs:shown ids base (Bg.map (qI ids base)) (qS ids (bkI ids base) (Bg.map (qI ids base)) M0) M1 r=some (Bg,M0,qI ids base r,(oK ids base ids M1).getD []):=by kernel_rfl):FC P f (Bg.map (qI ids base)) (qS ids (bkI ids base) (Bg.map (qI ids base)) M0) base (qI ids base r) ((oK ids base ids M1).getD []):=FMM.fc h hs
theorem FV.fi{f base:Nat}{fn:Func}{args:List AV}{y:AV}{L:Upd}{l:List Prop}(hf:Tryz.prog.funcs[f]? = some fn)(o:List OI)(g:aY (out l))(h:cEn base (aVo Tryz.prog tT EO 0 fn (cd fn) args [] (asg o))=some (y,L,l,[]):=by kernel_rfl)(hb:fn.body.isSome=true:=by kernel_rfl):FV Tryz.prog f args base y L:=FV.fin hf hb h g
theorem aB.fi{k:Nat}{c:Code}{st Am:St}{e:Ex}(g:Gh)(o:List OI){l:List Prop}(gd:aY (out l))(h:aMt k g (aCb Tryz.prog tT EO k 0 c st (asg o))=some (e,Am,l,[]):=by kernel_rfl):aB Tryz.prog k c st e Am:=aB.fin h gd
theorem FMM.fi(k:Nat)(g:Gh){f:Nat}{fn:Func}{args:List AV}{M M':Mem}{r:AV}{l:List Prop}(hf:Tryz.prog.funcs[f]? = some fn)(o:List OI)(gd:aY (out l))(h:bXn k g (aVo Tryz.prog tT EO 0 fn (cd fn) args M (asg o))=some (r,M',l,[]):=by kernel_rfl)(hb:fn.body.isSome=true:=by kernel_rfl)(hk:M.length=k:=by kernel_rfl):FMM Tryz.prog f args M r M':=FMM.fin hk hf hb h gd
theorem g0{a b:Int}(h:a<b):aY (out [(decide (a<b))=true]):=gc (bG h) gn
def Qr:List Nat→List Nat
 | a::n::r=>List.range' a n++Qr r
 | _=>[]
abbrev gE:Gh:=⟨[],[],[],[]⟩
abbrev gZ(l:List Nat):Gh:=⟨Qr l,[],[],[]⟩
abbrev gI(l i:List Nat):Gh:=⟨Qr l,i,[],[]⟩
abbrev gN(l i:List Nat)(n:List (Nat × Nat)):Gh:=⟨Qr l,i,[],n⟩
abbrev rF(n:Nat):List OI:=List.replicate n (.b false)
abbrev rT(n:Nat):List OI:=List.replicate n (.b true)
abbrev pS(c:Code)(n:Nat)(l:List Nat):Code:=sub c (List.replicate n 1++l)
end
section
section
variable {P:Program} {k:Nat} {b:Code} {α:Type}
theorem aF.find(S:Nat→St)(R1:Nat→α→St)(R2:St)(e1 e2:Ex)(h1:e1 ≠ .normal)(h2:e2 ≠ .normal)(p:α→Bool)(l:List α)
  (hs:∀ (i:Nat) (x:α),l[i]? = some x→p x=false→aB P k b (S i) .normal (S (i+1)))
  (hq:∀ (i:Nat) (x:α),l[i]? = some x→p x=true→aB P k b (S i) e1 (R1 i x))
  (hx:aB P k b (S l.length) e2 R2) :
  (∃ i x,l[i]? = some x∧l.findIdx? p=some i∧p x=true∧aF P k b (S 0) e1 (R1 i x))∨(l.findIdx? p=none∧l.any p=false∧aF P k b (S 0) e2 R2):=by
 have key:∀ (r:List α) (i:Nat),l.drop i=r→i≤l.length→(∃ j x,l[i+j]? = some x∧r.findIdx? p=some j∧p x=true∧aF P k b (S i) e1 (R1 (i+j) x))∨(r.findIdx? p=none∧r.any p=false∧aF P k b (S i) e2 R2):=by
  intro r
  induction r with
  | nil =>
   intro i hd hi;have:i=l.length:=by have:=congrArg List.length hd;simp at this;omega
   subst this;exact .inr ⟨rfl,rfl,.exit hx h2⟩
  | cons x r ih =>
   intro i hd hi;have hl:l[i]? = some x:=by
    have:=congrArg (·[0]?) hd
    simpa using this
   have hlt:i<l.length:=(Bs.1 hl).1;cases hp:p x with
   | true=>exact .inl ⟨0,x,by simpa using hl,by simp [List.findIdx?_cons,hp],hp,.exit (hq i x hl hp) h1⟩
   | false =>
    have Rs:l.drop (i+1)=r:=by
     have:=congrArg List.tail hd;simpa [List.tail_drop] using this
    rcases ih (i+1) Rs (by omega) with ⟨j,y,q1,q2,q3,q4⟩ | ⟨q1,q2,q3⟩
    ·refine .inl ⟨j+1,y,by rw [← q1];congr 1;omega,by simp [List.findIdx?_cons,hp,q2],q3,?_⟩
     rw [show i+(j+1)=i+1+j by omega]
     exact .step (hs i x hl hp) q4
    ·exact .inr ⟨by simp [List.findIdx?_cons,hp,q1],by simp [hp,q2],.step (hs i x hl hp) q3⟩
 rcases key l 0 (by simp) (Nat.zero_le _) with ⟨j,x,q1,q2,q3,q4⟩ | q
 ·exact .inl ⟨j,x,by simpa using q1,q2,q3,by simpa using q4⟩
 ·exact .inr q
end
theorem aF.times{P:Program}{k:Nat}{b:Code}{β:Type}{e:Ex}(S:Nat→β→St)(R:β→St)(f:β→Nat→β)(Inv:Nat→β→Prop)(he:e ≠ .normal)(n:Nat){a0:β}(h0:Inv 0 a0)
  (hs:∀ (i:Nat) (acc:β),i<n→Inv i acc→Inv (i+1) (f acc i)∧aB P k b (S i acc) .normal (S (i+1) (f acc i)))
  (hx:∀ acc,Inv n acc→aB P k b (S n acc) e (R acc)):aF P k b (S 0 a0) e (R ((List.range n).foldl f a0)):=by
 refine aF.range S R f Inv he (List.range n) h0 (fun i x acc hl hI => ?_) (fun acc hI => ?_)
 ·obtain ⟨h1,rfl⟩:=Bs.1 hl
  rw [List.getElem_range];exact hs i acc (by simpa using h1) hI
 ·rw [aRl] at hI ⊢
  exact hx acc hI
theorem qU{p:Nat→Bool}:∀ (l:List Nat) (a:List Int),l.foldl (fun acc s=>if p s then acc++[(s:Int)] else acc) a=a++(l.filter p).map fun (s:Nat)=>(s:Int)
 | [],a=>by simp
 | x::l,a=>by
  rw [qT,qU l]
  by_cases h:p x <;> simp [h]
theorem aKb{g:Nat→Int}:∀ (l:List Nat) (a:List Int),l.foldl (fun acc s=>acc++[g s]) a=a++l.map g
 | [],a=>by simp
 | x::l,a=>by
  rw [qT,aKb l];simp
def fN{α:Type}(p:α→Bool)(l:List α):Int:=match l.findIdx? p with
 | some i=>(i:Int)
 | none => -1
theorem eH{α:Type}{p:α→Bool}{l:List α}{i:Nat}(h:l.findIdx? p=some i):fN p l=(i:Int):=by unfold fN;rw [h]
theorem eT{α:Type}{p:α→Bool}{l:List α}(h:l.findIdx? p=none):fN p l = -1:=by unfold fN;rw [h]
theorem gT{α:Type}(p:α→Bool)(l:List α):decide (fN p l ≥ 0)=l.any p:=by
 unfold fN;cases h:l.findIdx? p with
 | none =>
  have:l.any p=false:=by simpa using h
  simp [this]
 | some i =>
  have:l.any p=true:=by
   have h2:(l.findIdx? p).isSome=true:=by rw [h];rfl
   rwa [List.findIdx?_isSome] at h2
  simp [this]
def uni(k:Nat)(L:Lqq):Prop:=∀ x∈L,x.length=k
theorem aEt{k:Nat}{x:List Int}{L:Lqq}(h:uni k (x::L)):uni k L:=fun y hy=>h y (Cj _ hy)
theorem aMr{k:Nat}:∀ {L:Lqq} (i:Nat),uni k L→(L.flatten).drop (i*k)=(L.drop i).flatten
 | [],i,_=>by simp
 | x::L,0,_=>by simp
 | x::L,i+1,h=>by
  have hx:=h x (by simp)
  rw [xY,List.drop_succ_cons,← aMr i (aEt h),List.drop_append];rw [List.drop_eq_nil_of_le (by rw [hx,aHz];omega),List.nil_append]
  congr 1
  rw [hx,aHz];omega
theorem aMs{k:Nat}:∀ {L:Lqq} (i:Nat),uni k L→(L.flatten).take (i*k)=(L.take i).flatten
 | [],i,_=>by simp
 | x::L,0,_=>by simp
 | x::L,i+1,h=>by
  have hx:=h x (by simp)
  rw [xY,List.take_succ_cons,xY,← aMs i (aEt h),List.take_append];rw [List.take_of_length_le (by rw [hx,aHz];omega)]
  congr 2
  rw [hx,aHz];omega
theorem qV{k:Nat}:∀ {L:Lqq},uni k L→(L.flatten).length=L.length*k
 | [],_=>by simp
 | x::L,h=>by rw [xY,jT,qV (aEt h),h x (by simp),nM,aHz];omega
theorem cDw{k i:Nat}{L:Lqq}{x:List Int}(h:uni k L)(hx:L[i]? = some x):((L.flatten).drop (i*k)).take k=x:=by
 have hl:x.length=k:=h x (Bp hx);obtain ⟨hi,he⟩:=Bs.1 hx;rw [aMr i h,aRk hi,xY,he,List.take_append_of_le_length (by omega),List.take_of_length_le (by omega)]
theorem eA{k i:Nat}{L:Lqq}{x:List Int}(h:uni k L)(hx:L[i]? = some x):i*k+k≤(L.flatten.map aA).length:=by
 obtain ⟨hi,_⟩:=Bs.1 hx;rw [B9,qV h];have:(i+1)*k≤L.length*k:=Nat.mul_le_mul_right _ hi;rw [aHz] at this;exact this
theorem dE{k i:Nat}{L:Lqq}{x:List Int}(h:uni k L)(hx:L[i]? = some x):some (PV.agg (((L.flatten.map aA).drop (i*k)).take k))=some (.agg (x.map aA)):=by
 rw [← List.map_drop,← List.map_take,cDw h hx]
theorem iX{k i f:Nat}{L:Lqq}{x:List Int}{y:Int}(h:uni k L)(hx:L[i]? = some x)(hy:x[f]? = some y):(L.flatten.map aA)[i*k+f]? = some (aA y):=by
 have hl:x.length=k:=h x (Bp hx);have hf:f<k:=by rw [← hl];exact (Bs.1 hy).1
 have:=congrArg (·[f]?) (cDw h hx)
 simp only [List.getElem?_take,hf,if_true,List.getElem?_drop] at this
 rw [jU,this,hy];rfl
theorem kE{k i:Nat}{L:Lqq}{x:List Int}(h:uni k L)(hi:i<L.length)(hx:x.length=k):((L.flatten.map aA).take (i*k)++x.map aA++(L.flatten.map aA).drop (i*k+k))=((L.set i x).flatten.map aA):=by
 have e:i*k+k=(i+1)*k:=by rw [aHz]
 rw [← List.map_take,← List.map_drop,← iV,← iV,aMs i h,e,aMr (i+1) h];rw [List.set_eq_take_append_cons_drop,if_pos hi,bRd,xY,List.append_assoc]
theorem aCr{k i:Nat}{L:Lqq}{x:List Int}(h:uni k L)(hx:x.length=k):uni k (L.set i x):=fun y hy=>by
 rcases List.mem_or_eq_of_mem_set hy with h1 | rfl
 ·exact h y h1
 ·exact hx
theorem len2{x:List Int}(h:x.length=2):∃ a b,x=[a,b]:=by
 match x,h with
 | [a,b],_=>exact ⟨a,b,rfl⟩
theorem N9{x:List Int}(h:x.length=4):∃ a b c d,x=[a,b,c,d]:=by
 match x,h with
 | [a,b,c,d],_=>exact ⟨a,b,c,d,rfl⟩
theorem bDo{α:Type}{g:α→PV}{n:Nat}{cs:List PV}{l:List α}(h1:n=l.length)(h2:cs=l.map g):PV.sl n cs = .sl l.length (l.map g):=by subst h1;subst h2;rfl
theorem bRg{l:List PV}{i:Nat}{x:PV}(h:l[i]? = some x):(l++[])[i]? = some x:=by rw [List.append_nil];exact h
theorem bRh{k:Nat}{L:Lqq}{i:Int}{x:List Int}(hk:0<k)(hu:uni k L)(h0:0≤i)(h:L[i.toNat]? = some x):0≤i∧i<(L.length:Int)∧i.toNat*k<(L.flatten.map aA).length:=by
 have h1:=eA hu h;obtain ⟨h2,_⟩:=Bs.1 h;exact ⟨h0,by omega,by omega⟩
theorem aI{n:Nat}(h:n≤1000000):inR ((n:Nat):Int):=by unfold inR;omega
theorem aT{α:Type}{l:List α}{i:Nat}{x:α}(h:l[i]? = some x):i<l.length:=(Bs.1 h).1
abbrev small(n:Nat):Prop:=n<1000000
theorem gfl{k i:Nat}{L:Lqq}{x:List Int}{l:List Prop}(hu:uni k L)(h:L[i]? = some x)(g:aY (out l))(hk:0<k:=by decide):aY (out ((some (PV.agg (((L.flatten.map aA).drop (i*k)).take k))=some (.agg (x.map aA)))::(i*k+k≤(L.flatten.map aA).length)::(0≤(i:Int)∧(i:Int)<(L.length:Int)∧(i:Int).toNat*k<(L.flatten.map aA).length)::l)):=gc (dE hu h) (gc (eA hu h) (gc (bRh hk hu (C7 _) (by rwa [aHy])) g))
theorem gfz{k:Nat}{z:Int}{L:Lqq}{x:List Int}{l:List Prop}(hu:uni k L)(h0:0≤z)(h:L[z.toNat]? = some x)(g:aY (out l))(hk:0<k:=by decide):aY (out ((some (PV.agg (((L.flatten.map aA).drop (z.toNat*k)).take k))=some (.agg (x.map aA)))::(z.toNat*k+k≤(L.flatten.map aA).length)::(0≤z∧z<(L.length:Int)∧z.toNat*k<(L.flatten.map aA).length)::l)):=gc (dE hu h) (gc (eA hu h) (gc (bRh hk hu h0 h) g))
end
end KV
end Go.Proofs
section
namespace Go.Proofs
open Go.ChangeShapes Go.WideShapes Go.ChangeAt Go.RowKit
namespace KV
open Tryz
variable {P:Program} {W W':World}

def CxW(W:World):Cx:={ ι:=fun _=>none,κ:=fun _=>0,F:=fun b=>b<W.heap.size }
theorem cNb(W:World):aO P (CxW W) [] W:=⟨fun i ty n cs h=>by simp at h,fun i ty cs h=>by simp at h,fun i es cl h=>by simp at h,fun i i' o o' b h=>by simp at h,fun i o b h=>by simp at h,fun b h=>h,fun i o b h=>by simp at h⟩

theorem FV.law{f:Nat}{args:List AV}{us:List Value}(h:∀ base:Nat,FV P f args base (.p (blP true)) [])(hn:jD args=true)(hus:cN (CxW W) [] W args us):Calls P f us.toArray W fun e W'=>e = .returned (.bool true)∧Below W.heap.size W W':=by
 have hc:=(h 0).fc (bs:=[]) hn [] (fun p hp=>by simp at hp) rfl
 refine (callsIn_wide (n:=0)).1 ((hc (fun j _=>by rw [gS];cases j <;> rfl) (CxW W) W us hus (cNb W) 0).mono ?_)
 rintro e w' ⟨u,rfl,C',hF,hM,hr⟩;cases hr with
 | p _ _ h =>
  cases h;exact ⟨rfl,hF.os,hF.tape,hF.out,hF.size,fun b hb=>hF.keep b hb fun id o ho=>by simp at ho⟩

section
variable {H:Type} {enc:TypeId × Value→H}
theorem uZ(hl:laidOutB P=true)(hb:Below W.heap.size W W'):∀ {ts:List TypeId} {vs:List Value} {ds:List (DataW H)} {ps:List MemPlace},(ts.all fun t=>P.readableRec t && decide (t<P.types.size))=true→DataW.TrodAll enc P W 0 (fun _=>true) true ts vs ds ps→(∀ x∈ps,x.block<W.heap.size) →
  DataW.TrodAll enc P W' 0 (fun b=>decide (b<W.heap.size)) true ts vs ds ps
 | [],[],[],_,_,h,_=>h
 | t::ts,v::vs,d::ds,ps,hr,⟨p,q,h1,h2,e⟩,hlt=>by
  rw [List.all_cons,Cc,Cc,decide_eq_true_eq] at hr
  subst e;exact ⟨p,q,Below.trod hl hr.1.1 hr.1.2 h1 hb (fun x hx=>hlt x (mK _ hx)),uZ hl hb hr.2 h2 (fun x hx=>hlt x (zQ _ hx)),rfl⟩
 | [],_::_,_,_,_,h,_=>h.elim
 | _::_,[],_,_,_,h,_=>h.elim
 | [],[],_::_,_,_,h,_=>h.elim
 | _::_,_::_,[],_,_,h,_=>h.elim

theorem bFw{a:Addr}{v:Value}(h:W.cell? (a.add 0)=some v):a=⟨a.block,a.off,none⟩:=by
 obtain ⟨b,o,s⟩:=a;cases s with
 | none=>rfl
 | some x =>
  unfold World.cell? at h
  simp only [Addr.add,if_true] at h
  split at h <;> simp at h

theorem zC{t e:TypeId}{k:IntKind}{v:Value}{d:DataW H}{ps:List MemPlace}{base:Nat}(ht:P.underlying t=some (.slice e))(he:P.underlying e=some (.int k))(hc:P.cellsOf e=1)(hok:Value.okWide P W .any base t v)
  (h:DataW.Trod enc P W 0 (fun _=>true) true t v d ps):∃ l:List Int,bQ (CxW W).F W (.sl l.length (l.map fun n => .v (.int k n))) v∧(∀ n∈l,(Lit.int k n).wf=true)∧l.length≤maxLen:=by
 obtain ⟨a0,len,cap,rfl⟩:=okWide_slice ht hok;obtain ⟨fuel,hf⟩:=h
 rcases open_ints ht he hc hf with ⟨hcs,hx⟩ | ⟨a,Ux,Fz,zs,hcs,_,hl,hm,hz,hx,hcell,hwz⟩
 ·simp [Value.cells] at hcs
  obtain ⟨rfl,rfl,rfl⟩:=hcs;exact ⟨[],.sl 0 [] none 0 (fun _=>undef) (dG _) (Nat.zero_le _) (fun i h=>by simp at h) (fun i h=>by simp at h) (fun i h=>by simp at h),fun n h=>by simp at h,Nat.zero_le _⟩
 ·simp [Value.cells] at hcs
  obtain ⟨rfl,rfl,rfl⟩:=hcs;simp only [if_true] at hz
  have hlen:(zs.take len).length=len:=by rw [jV];omega
  refine ⟨zs.take len,?_,fun n hn=>hwz n (List.mem_of_mem_take hn),by rw [hlen];omega⟩
  rw [hlen];refine .sl len _ (some a) cap (fun i => .int k (zs.getD i 0)) hl hm (fun i hi => ?_) (fun i hi => ?_) (fun i hi=>rfl)
  ·have Bi:i<len:=by rw [B9,hlen] at hi;exact hi
   have q1:=bFw (hcell 0 (by omega))
   have q2:=hcell i (by omega)
   rw [q1,Addr.add_lit] at q2
   exact ⟨a.block,a.off,by rw [← q1],World.block_lt_of_cell? W ⟨a.block,a.off+i,none⟩ q2,q2⟩
  ·have Bi:i<len:=by rw [B9,hlen] at hi;exact hi
   simp only [mL,List.getElem_take];have:zs.getD i 0=zs[i]'(by omega):=by rw [Bw,Av (by omega)];rfl
   rw [this];exact .v _
end
end KV
end Go.Proofs
end
section
namespace Go.Proofs
open Go.ChangeShapes Go.WideShapes Go.ChangeAt Go.RowKit Go.Deep
namespace KV
open Tryz
section
variable {P:Program} {W W':World} {H:Type} {enc:TypeId × Value→H}
end
end KV
end Go.Proofs
end
namespace Go.Proofs
namespace KV
open Tryz
section
section
variable {l:Lqq} {j i:Nat} {xs:List Int} {v:Int}
end
end
end KV
end Go.Proofs
section
namespace Go.Proofs
open Go.RowKit
namespace KV
open Tryz
variable {P:Program} {C C0:Cx} {M M0:Mem} {w w0:World}

def mE(w:World)(b:Nat):Prop:=∃ o:Obj,w.heap[b]? = some o∧o.isCells=true
theorem wG{b o:Nat}{v:Value}(h:w.cell? ⟨b,o,none⟩=some v):mE w b:=cells_of_cell h
theorem fJ{b ty:Nat}{arr:Array Value}{fr:Nat × Nat}(h:w.heap[b]? = some (.cells arr ty fr)):mE w b:=⟨_,h,rfl⟩

mutual
def nmP:PV→Bool
 | .v _=>true
 | .sl _ cs=>kG cs
 | .agg cs=>kG cs
 | .mp _=>false
 | .rp cs _=>kG cs
def kG:List PV→Bool
 | []=>true
 | x::r=>nmP x && kG r
end
theorem rB:∀ {l:List PV},kG l=true→∀ (i:Nat) (h:i<l.length),nmP l[i]=true
 | [],_,i,h=>by simp at h
 | x::r,hl,i,h=>by
  rw [kG,Cc] at hl
  cases i with
  | zero=>exact hl.1
  | succ i=>exact rB hl.2 i (by simpa using h)
theorem aFf{α:Type}(g:α→PV)(h:∀ x,nmP (g x)=true):∀ l:List α,kG (l.map g)=true
 | []=>rfl
 | x::r=>by rw [iB,kG,h,aFf g h r];rfl
mutual
def nmA:AV→Bool
 | .p x=>nmP x
 | .rp cs _=>kG cs
 | .agg l=>nmL l
 | .tup l=>nmL l
 | .fn _ a b=>nmL a && nmL b
 | _=>true
def nmL:List AV→Bool
 | []=>true
 | x::r=>nmA x && nmL r
end
theorem wH:∀ {l:List AV},nmL l=true→∀ (i:Nat) (h:i<l.length),nmA l[i]=true
 | [],_,i,h=>by simp at h
 | x::r,hl,i,h=>by
  rw [nmL,Cc] at hl
  cases i with
  | zero=>exact hl.1
  | succ i=>exact wH hl.2 i (by simpa using h)
def nmM:Mem→Bool
 | []=>true
 | some (.row _ _ cs)::r=>kG cs && nmM r
 | some (.box _ l)::r=>nmL l && nmM r
 | _::r=>nmM r
theorem aFg:∀ {m:Mem},nmM m=true→(∀ (i ty n:Nat) (cs:List PV),m[i]? = some (some (.row ty n cs))→kG cs=true)∧∀ (i ty:Nat) (l:List AV),m[i]? = some (some (.box ty l))→nmL l=true
 | [],_=>⟨fun i ty n cs h=>by simp at h,fun i ty l h=>by simp at h⟩
 | x::r,hm=>by
  have hr:nmM r=true:=by
   cases x with
   | none=>exact hm
   | some o=>cases o <;> simp [nmM] at hm <;> first | exact hm.2 | exact hm
  obtain ⟨h1,h2⟩:=aFg hr;refine ⟨fun i ty n cs h => ?_,fun i ty l h => ?_⟩
  ·cases i with
   | zero=>simp at h;subst h;simp [nmM] at hm;exact hm.1
   | succ i=>exact h1 i ty n cs (by simpa using h)
  ·cases i with
   | zero=>simp at h;subst h;simp [nmM] at hm;exact hm.1
   | succ i=>exact h2 i ty l (by simpa using h)
theorem bQ.shrink{F F':Nat→Prop}{x:PV}{u:Value}(h:bQ F w x u)(hF:∀ b,F b→mE w b→F' b)(hm:nmP x=true):bQ F' w x u:=by
 induction h with
 | v x=>exact .v x
 | sl n cs p cap us h1 h2 h3 _ h5 ih =>
  rw [nmP] at hm
  refine .sl n cs p cap us h1 h2 (fun i hi => ?_) (fun i hi=>ih i hi (rB hm i hi)) h5
  obtain ⟨b,o,hp,hb,hc⟩:=h3 i hi;exact ⟨b,o,hp,hF b hb (wG hc),hc⟩
 | agg cs vs h0 h1 _ ih =>
  rw [nmP] at hm
  exact .agg cs vs h0 h1 fun i hi=>ih i hi (rB hm i hi)
 | mp=>simp [nmP] at hm
 | rp cs off b o us h1 _ h3 ih =>
  rw [nmP] at hm
  exact .rp cs off b o us (fun i hi=>⟨hF b (h1 i hi).1 (wG (h1 i hi).2),(h1 i hi).2⟩) (fun i hi=>ih i hi (rB hm i hi)) h3
theorem Rep.shrink{F':Nat→Prop}{x:AV}{u:Value}(h:Rep C M w x u)(hF:∀ b,C.F b→mE w b→F' b)(hm:nmA x=true):Rep ⟨C.ι,C.κ,F',[]⟩ M w x u:=by
 induction h with
 | p x u h=>exact .p x u (h.shrink hF (by simpa [nmA] using hm))
 | any u=>exact .any u
 | kb b=>exact .kb b
 | yld l=>exact .yld l
 | own id u h0 ha h=>exact .own id u h0 ha h
 | arr id off n u h0 ha h=>exact .arr id off n u h0 ha h
 | ptr id off u h0 ha h hp=>exact .ptr id off u h0 ha h hp
 | mp id u h0 ha h=>exact .mp id u h0 ha h
 | pa id q u h0 ha h=>exact .pa id q u h0 ha h
 | rp cs off b o us h1 h2 h3 =>
  have Dt:kG cs=true:=by simpa [nmA] using hm
  exact .rp cs off b o us (fun i hi=>⟨hF b (h1 i hi).1 (wG (h1 i hi).2),(h1 i hi).2⟩) (fun i hi=>(h2 i hi).shrink hF (rB Dt i hi)) h3
 | agg cs vs h0 h1 _ ih =>
  have Dt:nmL cs=true:=by simpa [nmA] using hm
  exact .agg cs vs h0 h1 fun i hi=>ih i hi (wH Dt i hi)
 | tup cs vs h1 _ ih =>
  have Dt:nmL cs=true:=by simpa [nmA] using hm
  exact .tup cs vs h1 fun i hi=>ih i hi (wH Dt i hi)
 | fn f cs ds us vs h1 h2 _ _ J9 Ka =>
  have Dt:nmL cs=true∧nmL ds=true:=by simpa [nmA] using hm
  exact .fn f cs ds us vs h1 h2 (fun i hi=>J9 i hi (wH Dt.1 i hi)) fun i hi=>Ka i hi (wH Dt.2 i hi)

def aBm(M:Mem):Prop:=(∀ (i:Nat) (es:List (Value × PV)) (cl:Nat),M[i]? ≠ some (some (.mp es cl)))∧bGu M
def gU:Mem→Bool
 | []=>true
 | some (.pk _ _ _ _)::_=>false
 | some (.mp _ _)::_=>false
 | _::r=>gU r
theorem fB:∀ {m:Mem},gU m=true→aBm m
 | [],_=>⟨fun i es cl h=>by simp at h,fun i o h=>by simp at h⟩
 | none::r,hm=>by
  obtain ⟨h1,h2⟩:=fB (m:=r) hm;refine ⟨fun i es cl h => ?_,fun i o h => ?_⟩
  ·cases i with
   | zero=>simp at h
   | succ i=>exact h1 i es cl (by simpa using h)
  ·cases i with
   | zero=>simp at h
   | succ i=>exact h2 i o (by simpa using h)
 | some x::r,hm=>by
  have hr:gU r=true∧x.isPk=false∧∀ es cl,x ≠ .mp es cl:=by
   cases x with
   | pk=>simp [gU] at hm
   | mp=>simp [gU] at hm
   | _=>exact ⟨by simpa [gU] using hm,rfl,fun _ _ e=>by cases e⟩
  obtain ⟨h1,h2⟩:=fB (m:=r) hr.1;refine ⟨fun i es cl h => ?_,fun i o h => ?_⟩
  ·cases i with
   | zero=>simp at h;exact hr.2.2 _ _ h
   | succ i=>exact h1 i es cl (by simpa using h)
  ·cases i with
   | zero=>simp at h;rw [← h];exact hr.2.1
   | succ i=>exact h2 i o (by simpa using h)

theorem wI{M':Mem}{W:World}(hn:aBm M')(hq:nmM M'=true)(hF:∀ b,C.F b→b<w.heap.size){C':Cx}(hM:aO P C' M' W)(f:Fr C M w C' M' W) :
  ∃ C'',aO P C'' M' W∧Fr C M w C'' M' W∧(∀ b,C''.F b→b<w.heap.size∨mE W b):=by
 refine ⟨⟨C'.ι,C'.κ,fun b=>C'.F b∧(b<w.heap.size∨mE W b),[]⟩,⟨fun i ty n cs hm => ?_,fun i ty cs hm => ?_,fun i es cl hm=>absurd hm (hn.1 _ _ _),hM.inj,fun i o b ho hl hb hf=>hM.nF i o b ho hl hb hf.1,fun b hb=>hM.Fs b hb.1,hM.lt⟩,
  ⟨f.os,f.tape,f.out,f.size,f.keep,f.ids,f.row,f.liv,f.new,fun b hb=>⟨f.F1 b hb,.inl (hF b hb)⟩,fun b hb=>f.F2 b hb.1⟩,fun b hb=>hb.2⟩
 ·rcases hM.row _ _ _ _ hm with h4 | ⟨b,arr,inf,q0,q1,q2,q3,q4,q5,q6,q7,q8⟩
  ·exact .inl h4
  ·exact .inr ⟨b,arr,inf,q0,q1,q2,q3,q4,q5,q6,fun j hj=>(q7 j hj).shrink (fun b hb hs=>⟨hb,.inr hs⟩) (rB ((aFg hq).1 _ _ _ _ hm) j hj),q8⟩
 ·obtain ⟨b,arr,q0,q1,q2,q3,q4⟩:=hM.box _ _ _ hm
  exact ⟨b,arr,q0,q1,q2,fun j hj=>(q3 j hj).shrink (fun b hb hs=>⟨hb,.inr hs⟩) (wH ((aFg hq).2 _ _ _ hm) j hj),q4⟩

def bJr(P:Program)(C:Cx)(M:Mem)(w:World)(M':Mem)(W:World):Prop:=∃ C',aO P C' M' W∧Fr C M w C' M' W

theorem jQ{W:World}{b:Nat}{o:Obj}(h:W.heap[b]? = some o)(ho:o.isCells=false):¬ mE W b:=fun ⟨o',h',hc⟩=>by rw [h] at h';cases h';rw [ho] at hc;cases hc

theorem bJr.own{M':Mem}{W W':World}{row:Option Nat}(hn:aBm M')(hq:nmM M'=true)(hF:∀ b,C.F b→b<w.heap.size)(h:bJr P C M w M' W)(hg:W.grownBy W' row)
  (hr:∀ r,row=some r→w.heap.size≤r∧∃ o:Obj,W.heap[r]? = some o∧o.isCells=false):bJr P C M w M' W':=by
 obtain ⟨C1,h1,h2⟩:=h;obtain ⟨C',hM,f,hS⟩:=wI hn hq hF h1 h2;have hsame:∀ b,b<W.heap.size→(b<w.heap.size∨mE W b)→W'.heap[b]? = W.heap[b]? := fun b hb hd=>hg.block b hb (fun e=>by
  obtain ⟨q1,o,q2,q3⟩:=hr b e.symm
  rcases hd with hd | hd
  ·omega
  ·exact jQ q2 q3 hd)
 have hFz:∀ b,C'.F b→W'.heap[b]? = W.heap[b]? := fun b hb=>hsame b (hM.Fs b hb) (hS b hb)
 have hL:Le C' C' M' M' W W':=⟨fun _ o h=>⟨o,h⟩,fun _ _ _ _ _ cs h=>⟨cs,h⟩,fun _ o h o' h' hl=>by rw [h] at h';cases h';exact ⟨hl,rfl,rfl⟩,fun _ h=>h,hFz⟩
 refine ⟨C',⟨fun i ty n cs hm => ?_,fun i ty cs hm => ?_,fun i es cl hm=>absurd hm (hn.1 _ _ _),hM.inj,hM.nF,fun b hb=>fU (hM.Fs b hb) hg.size,fun i o b ho hl hb=>fU (hM.lt i o b ho hl hb) hg.size⟩,
  ⟨hg.os.trans f.os,hg.tape.trans f.tape,hg.output.trans f.out,gL f.size hg.size,fun b hb hno=>(hsame b (fU hb f.size) (.inl hb)).trans (f.keep b hb hno),f.ids,f.row,f.liv,f.new,f.F1,f.F2⟩⟩
 ·rcases hM.row _ _ _ _ hm with h4 | ⟨b,arr,inf,q0,q1,q2,q3,q4,q5,q6,q7,q8⟩
  ·exact .inl h4
  ·exact .inr ⟨b,arr,inf,q0,(hsame b (qP.1 q1).1 (.inr (fJ q1))).trans q1,q2,q3,q4,q5,q6,fun j hj=>(q7 j hj).mono hL.F hL.fz,q8⟩
 ·obtain ⟨b,arr,q0,q1,q2,q3,q4⟩:=hM.box _ _ _ hm
  exact ⟨b,arr,q0,(hsame b (qP.1 q1).1 (.inr (fJ q1))).trans q1,q2,fun j hj=>(q3 j hj).mono hL,q4⟩

structure KpG (F:Nat→Prop) (A B:World):Prop where
 size:A.heap.size≤B.heap.size
 same:∀ b,F b→B.heap[b]? = A.heap[b]?
theorem KpG.refl(F:Nat→Prop)(A:World):KpG F A A:=⟨dG _,fun _ _=>rfl⟩
theorem KpG.trans{F:Nat→Prop}{A B D:World}(h:KpG F A B)(k:KpG F B D):KpG F A D:=⟨gL h.size k.size,fun b hb=>(k.same b hb).trans (h.same b hb)⟩

def cGp(P:Program){α:Type}(g:AV)(encs:α→Array Value)(gf N:Nat)(S:List α→Prop):Prop:=∀ (C:Cx) (M:Mem) (w:World) (u:Value),Rep C M w g u→(∀ b,C.F b→b<w.heap.size) →
 ∃ lb Sp,u = .func (.func gf) #[] lb∧SeqStopsK Fence.wide 2 P gf lb encs (KpG C.F) S Sp N w

theorem bSg{ro:Option Nat}{n:Nat}:(Fen ro).room n:=fun d hd=>by cases hd
theorem aFh{ro:Option Nat}{n m:Nat}{c:Code}{Q:Exit→Act→World→Prop}{a:Act}(h:c.wpIn (Fen ro) n P Q a w):c.wpIn (Fen ro) m P Q a w:=fun b k cs hro hb _=>h b k cs hro hb bSg

theorem aNe{C:Cx}{M:Mem}{W:World}(hM:aO P C M W)(hn:aBm M){b:Nat}{o:Obj}(h:W.heap[b]? = some o)(ho:o.isCells=false):∀ (id:Nat) (x:AO),M[id]? = some (some x)→x.live=true→C.ι id≠some b:=fun id x hx hl hb=>by
 cases x with
 | row ty n cs =>
  rcases hM.row _ _ _ _ hx with ⟨h1,_⟩ | ⟨b',arr,i,h1,h2,_⟩
  ·rw [hb] at h1;cases h1
  ·rw [hb] at h1;cases h1;exact jQ h ho (fJ h2)
 | box ty cs =>
  obtain ⟨b',arr,h1,h2,_⟩:=hM.box _ _ _ hx;rw [hb] at h1;cases h1;exact jQ h ho (fJ h2)
 | mp es cl=>exact hn.1 _ _ _ hx
 | pk to ti sz L=>have:=hn.2 _ _ hx;cases this
 | dead=>cases hl

theorem O7(p q:Nat)(a b:Value)(t:Array Value):(#[p,q].zip #[a,b]).foldl (fun t (x:Nat × Value)=>t.setIfInBounds x.1 x.2) t=(t.setIfInBounds p a).setIfInBounds q b:=by simp

end KV
end Go.Proofs
end
namespace Go.Proofs
namespace KV
open Tryz
section

theorem aF.count{P:Program}{k:Nat}{b:Code}{e:Ex}{R:St}(N:Nat)(S:Nat→St)(hs:∀ i,i<N→aB P k b (S i) .normal (S (i+1)))(hx:aB P k b (S N) e R)(he:e ≠ .normal):aF P k b (S 0) e R:=by
 have key:∀ d i,i+d=N→aF P k b (S i) e R:=by
  intro d
  induction d with
  | zero =>
   intro i hi;obtain rfl:i=N:=by omega
   exact .exit hx he
  | succ d ih=>intro i hi;exact .step (hs i (by omega)) (ih (i+1) (by omega))
 exact key N 0 (by omega)

def eW(l:List Int):List (Value × PV):=l.map fun k=>(.int .i64 k,blP true)
theorem aYk(l:List Int)(k:Int):eW (l++[k])=eW l++[(.int .i64 k,blP true)]:=by unfold eW;rw [iV];rfl
theorem oN{n:Int}(hn : -1000000≤n∧n≤1000000):aQt .i64 (.int .i64 n)=true:=by
 show (decide (IntKind.i64=IntKind.i64) && (Lit.int .i64 n).wf)=true;have:(Lit.int .i64 n).wf=true:=by
  have e1:IntKind.i64.min = -9223372036854775808:=rfl;have e2:IntKind.i64.max=9223372036854775807:=rfl;simp only [Lit.wf,e1,e2,Cc,decide_eq_true_eq];omega
 rw [this];rfl
theorem aYl{l:List Int}(hn:l.Nodup)(hb:∀ x∈l,-1000000≤x∧x≤1000000){x:Int}(hx : -1000000≤x∧x≤1000000):cG .i64 (eW l) (.int .i64 x):=by
 refine ⟨fun e he => ?_,oN hx,?_⟩
 ·obtain ⟨y,hy,rfl⟩:=Bq.1 he
  exact oN (hb y hy)
 ·unfold eW
  rw [uT];have:l.map ((fun e:Value × PV=>iU e.1) ∘ fun k=>(Value.int .i64 k,blP true))=l:=by
   conv=>rhs;rw [← List.map_id l]
   exact xW fun x _=>rfl
  rw [this];exact hn
theorem bSe{l:List Int}{x:Int}(h:x∉l):dU (eW l) (.int .i64 x)=false:=by
 unfold dU;rw [List.any_eq_false];intro e he;obtain ⟨y,hy,rfl⟩:=Bq.1 he;intro h2;have h3:y=x:=of_decide_eq_true h2;exact h (h3 ▸ hy)
theorem bSf{l:List Int}{x:Int}(h:x∈l):dU (eW l) (.int .i64 x)=true:=by
 unfold dU;rw [List.any_eq_true];exact ⟨_,Bq.2 ⟨x,h,rfl⟩,decide_eq_true rfl⟩

theorem bJq{l:List Int}{x:Int}(h:x∈l):gP (eW l) (.int .i64 x)=some (blP true):=by
 induction l with
 | nil=>cases h
 | cons a l ih =>
  by_cases e:a=x
  ·subst e;simp [eW,gP]
  ·have h2:x∈l:=by rcases gK.1 h with h | h;exact absurd h.symm e;exact h
   have:=ih h2;simpa [eW,gP,iU,e] using this
def within(n lo hi:Int):Bool:=decide (lo≤n) && decide (n≤hi)
def aZ(f:Lqq)(j:Nat):List Int:=f.map fun x=>x.getD j 0
theorem Bo{y:List Int}(h:y.length=6):∃ a b c d e f,y=[a,b,c,d,e,f]:=by
 match y,h with
 | [a,b,c,d,e,f],_=>exact ⟨a,b,c,d,e,f,rfl⟩
theorem at2{f:Lqq}(hu:uni 2 f){i:Nat}(hi:i<f.length):∃ a b,f[i]? = some [a,b]:=by
 obtain ⟨a,b,e⟩:=len2 (hu _ (fG hi));exact ⟨a,b,by rw [Av hi,e]⟩
theorem Ua{f:Lqq}(hu:uni 6 f){i:Nat}(hi:i<f.length):∃ a b c d e g,f[i]? = some [a,b,c,d,e,g]:=by
 obtain ⟨a,b,c,d,e,g,h⟩:=Bo (hu _ (fG hi));exact ⟨a,b,c,d,e,g,by rw [Av hi,h]⟩
end
section
variable {r0:Bool}{n dl hi lo x0 x1 x2 x3 x4 x5 Ad Aa Ab:Int}{dc sk:Lqq}{l m o o' Qx A5:List Int}{i i' Aw base:Nat}

noncomputable abbrev aFe:Code:=sub (cd Tryz.f203) [1,1,0,1,0,0]
noncomputable abbrev bEc:Code:=sub (cd Tryz.f135) [1,1,0,1,0,0]
noncomputable abbrev bEd:Code:=sub (cd Tryz.f204) [1,1,0,1,0,0]
theorem cMh(h0:lo≤n)(Aq:r0=(decide (n≤hi))):FV Tp 198 [(pI n),(pI lo),(pI hi)] base (pB r0) []:=by
 subst Aq;exact FV.fi func198 [bT,bT,bT,bT] (A4 (aCh h0) gn)
theorem cMi(h0:n<lo):FV Tp 198 [(pI n),(pI lo),(pI hi)] base (pB false) []:=FV.fi func198 [bF,bF,bF,bF] (A4 (kT h0) gn)
theorem bO(n lo hi:Int){base:Nat}:FV Tp 198 [.p (aA n),.p (aA lo),.p (aA hi)] base (pB (within n lo hi)) []:=by
 by_cases h:lo≤n
 ·exact cMh h (by simp [within,h])
 ·have e:within n lo hi=false:=by simp [within,h]
  rw [e];exact cMi (show n<lo by omega)
theorem cFy{k:Int}(Aq:r0=(decide (k≤4))):FV Tp 180 [(pI k)] base (pB r0) []:=by
 subst Aq;exact FV.fi func180 [] gn
theorem eE(k:Int){base:Nat}:FV Tp 180 [.p (aA k)] base (pB (decide (k≤4))) []:=cFy rfl
theorem cFz(h0:(within x0 1 999)=true)(Aq:r0=(within x1 (-1) 360000)):FV Tp 200 [(.p (.agg [(aA x0),(aA x1)]))] base (pB r0) []:=by
 subst Aq;have k1:=fk 1 (bO x0 1 999) rfl;have k2:=fk 1 (bO x1 (-1) 360000) rfl;exact FV.fi func200 [k1.o,bT,bT,bT,k2.o,bT] (gc h0 (gc k2 (Ay h0 (gc k1 gn))))
theorem cGa(h0:(within x0 1 999)=false):FV Tp 200 [(.p (.agg [(aA x0),(aA x1)]))] base (pB false) []:=have k1:=fk 1 (bO x0 1 999) rfl;FV.fi func200 [k1.o,bF,bF,bF,bF] (A4 h0 (gc k1 gn))
def skB(x:List Int):Bool:=within (x.getD 0 0) 1 999 && within (x.getD 1 0) (-1) 360000
theorem cGb(x0 x1:Int){base:Nat}:FV Tp 200 [.p (.agg [aA x0,aA x1])] base (pB (skB [x0,x1])) []:=by
 cases h:within x0 1 999 with
 | true=>exact cFz h (show (within x0 1 999 && _)=_ by rw [h];rfl)
 | false=>rw [show skB [x0,x1]=false from show (within x0 1 999 && _)=_ by rw [h];rfl];exact cGa h
def nH(k:Int):Int:=if k=3∨¬ k≤4∧k≠6 then 0 else 36000
def dcB(x:List Int):Bool:=within (x.getD 0 0) 1 9999 && (within (x.getD 1 0) 0 9 && (within (x.getD 2 0) 0 10000 && within (x.getD 4 0) 0 (nH (x.getD 1 0))))
abbrev dcE(a b c d e f:Int):PV := .agg [aA a,aA b,aA c,aA d,aA e,aA f]
theorem iP(a b c d e f:Int):dcB [a,b,c,d,e,f]=(within a 1 9999 && (within b 0 9 && (within c 0 10000 && within e 0 (nH b)))):=rfl
section
variable(h0:x1=3)(h1:(within x0 1 9999)=true)
include h0 h1
theorem cGc(h2:(within x1 0 9)=true)(h3:(within x2 0 10000)=true)(Aq:r0=(within x4 0 0)):FV Tp 202 [(.p (.agg [(aA x0),(aA x1),(aA x2),(aA x3),(aA x4),(aA x5)]))] base (pB r0) []:=by
 subst Aq;have k1:=fk 1 (bO x0 1 9999) rfl;have k2:=fk 1 (bO x1 0 9) rfl;have k3:=fk 1 (bO x2 0 10000) rfl;have k4:=fk 1 (bO x4 0 0) rfl;exact FV.fi func202 (rT 7++[k1.o,bT,bT,bT,k2.o,bT,bT,bT,bT,k3.o]++rT 5++[k4.o,bT]) (gc h3 (gc k4 (A4 h3 (gc h2 (gc k3 (Ay h2 (gc h1 (gc k2 (Ay h1 (gc k1 (Et (cT h0) gn)))))))))))
theorem cGd(h2:(within x1 0 9)=true)(h3:(within x2 0 10000)=false):FV Tp 202 [(.p (.agg [(aA x0),(aA x1),(aA x2),(aA x3),(aA x4),(aA x5)]))] base (pB false) []:=have k1:=fk 1 (bO x0 1 9999) rfl;have k2:=fk 1 (bO x1 0 9) rfl;have k3:=fk 1 (bO x2 0 10000) rfl;FV.fi func202 (rT 7++[k1.o,bT,bT,bT,k2.o,bT,bT,bT,bT,k3.o,bT]++rF 5) (Cf h3 (gc h2 (gc k3 (Ay h2 (gc h1 (gc k2 (Ay h1 (gc k1 (Et (cT h0) gn)))))))))
theorem cGe(h2:(within x1 0 9)=false):FV Tp 202 [(.p (.agg [(aA x0),(aA x1),(aA x2),(aA x3),(aA x4),(aA x5)]))] base (pB false) []:=have k1:=fk 1 (bO x0 1 9999) rfl;have k2:=fk 1 (bO x1 0 9) rfl;FV.fi func202 (rT 7++[k1.o,bT,bT,bT,k2.o,bT,bF,bF,bF,bF]) (A4 h2 (gc h1 (gc k2 (Ay h1 (gc k1 (Et (cT h0) gn))))))
end
theorem cGf(h0:x1=3)(h1:(within x0 1 9999)=false):FV Tp 202 [(.p (.agg [(aA x0),(aA x1),(aA x2),(aA x3),(aA x4),(aA x5)]))] base (pB false) []:=have k1:=fk 1 (bO x0 1 9999) rfl;FV.fi func202 (rT 7++[k1.o,bF,bF,bF,bF]) (A4 h1 (gc k1 (Et (cT h0) gn)))
section
variable(h0:x1≠3)(h1:(decide (x1≤4))=false)
include h0 h1
theorem cGg(h2:x1≠6)(h3:(within x0 1 9999)=true)(h4:(within x1 0 9)=true)(h5:(within x2 0 10000)=true)(Aq:r0=(within x4 0 0)):FV Tp 202 [(.p (.agg [(aA x0),(aA x1),(aA x2),(aA x3),(aA x4),(aA x5)]))] base (pB r0) []:=by
 subst Aq;have k1:=fk 1 (eE x1) rfl;have k2:=fk 1 (bO x0 1 9999) rfl;have k3:=fk 1 (bO x1 0 9) rfl;have k4:=fk 1 (bO x2 0 10000) rfl;have k5:=fk 1 (bO x4 0 0) rfl;exact FV.fi func202 ([bF,bF,bF,k1.o,bF,bF,bT,bT,bT,bF,bT,bF,bT,k2.o,bT,bT,bT,k3.o,bT,bT,bT,bT,k4.o]++rT 5++[k5.o,bT]) (gc h5 (gc k5 (A4 h5 (gc h4 (gc k4 (Ay h4 (gc h3 (gc k3 (Ay h3 (gc k2 (gc (kS h2) (gc (bE h0) (gc (cA h1) (gc (bE h0) (Ay (cA h1) (Az (bE h0) (gc k1 (Ay (bE h0) gn))))))))))))))))))
theorem cGh(h2:x1≠6)(h3:(within x0 1 9999)=true)(h4:(within x1 0 9)=true)(h5:(within x2 0 10000)=false):FV Tp 202 [(.p (.agg [(aA x0),(aA x1),(aA x2),(aA x3),(aA x4),(aA x5)]))] base (pB false) []:=have k1:=fk 1 (eE x1) rfl;have k2:=fk 1 (bO x0 1 9999) rfl;have k3:=fk 1 (bO x1 0 9) rfl;have k4:=fk 1 (bO x2 0 10000) rfl;FV.fi func202 ([bF,bF,bF,k1.o,bF,bF,bT,bT,bT,bF,bT,bF,bT,k2.o,bT,bT,bT,k3.o,bT,bT,bT,bT,k4.o,bT]++rF 5) (Cf h5 (gc h4 (gc k4 (Ay h4 (gc h3 (gc k3 (Ay h3 (gc k2 (gc (kS h2) (gc (bE h0) (gc (cA h1) (gc (bE h0) (Ay (cA h1) (Az (bE h0) (gc k1 (Ay (bE h0) gn))))))))))))))))
theorem cGi(h2:x1≠6)(h3:(within x0 1 9999)=true)(h4:(within x1 0 9)=false):FV Tp 202 [(.p (.agg [(aA x0),(aA x1),(aA x2),(aA x3),(aA x4),(aA x5)]))] base (pB false) []:=have k1:=fk 1 (eE x1) rfl;have k2:=fk 1 (bO x0 1 9999) rfl;have k3:=fk 1 (bO x1 0 9) rfl;FV.fi func202 [bF,bF,bF,k1.o,bF,bF,bT,bT,bT,bF,bT,bF,bT,k2.o,bT,bT,bT,k3.o,bT,bF,bF,bF,bF] (A4 h4 (gc h3 (gc k3 (Ay h3 (gc k2 (gc (kS h2) (gc (bE h0) (gc (cA h1) (gc (bE h0) (Ay (cA h1) (Az (bE h0) (gc k1 (Ay (bE h0) gn)))))))))))))
theorem cGj(h2:x1≠6)(h3:(within x0 1 9999)=false):FV Tp 202 [(.p (.agg [(aA x0),(aA x1),(aA x2),(aA x3),(aA x4),(aA x5)]))] base (pB false) []:=have k1:=fk 1 (eE x1) rfl;have k2:=fk 1 (bO x0 1 9999) rfl;FV.fi func202 [bF,bF,bF,k1.o,bF,bF,bT,bT,bT,bF,bT,bF,bT,k2.o,bF,bF,bF,bF] (A4 h3 (gc k2 (gc (kS h2) (gc (bE h0) (gc (cA h1) (gc (bE h0) (Ay (cA h1) (Az (bE h0) (gc k1 (Ay (bE h0) gn))))))))))
theorem cGk(h2:x1=6)(h3:(within x0 1 9999)=true)(h4:(within x1 0 9)=true)(h5:(within x2 0 10000)=true)(Aq:r0=(within x4 0 36000)):FV Tp 202 [(.p (.agg [(aA x0),(aA x1),(aA x2),(aA x3),(aA x4),(aA x5)]))] base (pB r0) []:=by
 subst Aq;have k1:=fk 1 (eE x1) rfl;have k2:=fk 1 (bO x0 1 9999) rfl;have k3:=fk 1 (bO x1 0 9) rfl;have k4:=fk 1 (bO x2 0 10000) rfl;have k5:=fk 1 (bO x4 0 36000) rfl;exact FV.fi func202 ([bF,bF,bF,k1.o,bF,bF,bT,bT,bT,bF,bT,bF,bF,k2.o,bT,bT,bT,k3.o,bT,bT,bT,bT,k4.o]++rT 5++[k5.o,bT]) (gc h5 (gc k5 (A4 h5 (gc h4 (gc k4 (Ay h4 (gc h3 (gc k3 (Ay h3 (gc k2 (gc (fW h2) (gc (bE h0) (gc (cA h1) (gc (bE h0) (Ay (cA h1) (Az (bE h0) (gc k1 (Ay (bE h0) gn))))))))))))))))))
theorem cGl(h2:x1=6)(h3:(within x0 1 9999)=true)(h4:(within x1 0 9)=true)(h5:(within x2 0 10000)=false):FV Tp 202 [(.p (.agg [(aA x0),(aA x1),(aA x2),(aA x3),(aA x4),(aA x5)]))] base (pB false) []:=have k1:=fk 1 (eE x1) rfl;have k2:=fk 1 (bO x0 1 9999) rfl;have k3:=fk 1 (bO x1 0 9) rfl;have k4:=fk 1 (bO x2 0 10000) rfl;FV.fi func202 ([bF,bF,bF,k1.o,bF,bF,bT,bT,bT,bF,bT,bF,bF,k2.o,bT,bT,bT,k3.o,bT,bT,bT,bT,k4.o,bT]++rF 5) (Cf h5 (gc h4 (gc k4 (Ay h4 (gc h3 (gc k3 (Ay h3 (gc k2 (gc (fW h2) (gc (bE h0) (gc (cA h1) (gc (bE h0) (Ay (cA h1) (Az (bE h0) (gc k1 (Ay (bE h0) gn))))))))))))))))
theorem bYy(h2:x1=6)(h3:(within x0 1 9999)=true)(h4:(within x1 0 9)=false):FV Tp 202 [(.p (.agg [(aA x0),(aA x1),(aA x2),(aA x3),(aA x4),(aA x5)]))] base (pB false) []:=have k1:=fk 1 (eE x1) rfl;have k2:=fk 1 (bO x0 1 9999) rfl;have k3:=fk 1 (bO x1 0 9) rfl;FV.fi func202 [bF,bF,bF,k1.o,bF,bF,bT,bT,bT,bF,bT,bF,bF,k2.o,bT,bT,bT,k3.o,bT,bF,bF,bF,bF] (A4 h4 (gc h3 (gc k3 (Ay h3 (gc k2 (gc (fW h2) (gc (bE h0) (gc (cA h1) (gc (bE h0) (Ay (cA h1) (Az (bE h0) (gc k1 (Ay (bE h0) gn)))))))))))))
theorem bYz(h2:x1=6)(h3:(within x0 1 9999)=false):FV Tp 202 [(.p (.agg [(aA x0),(aA x1),(aA x2),(aA x3),(aA x4),(aA x5)]))] base (pB false) []:=have k1:=fk 1 (eE x1) rfl;have k2:=fk 1 (bO x0 1 9999) rfl;FV.fi func202 [bF,bF,bF,k1.o,bF,bF,bT,bT,bT,bF,bT,bF,bF,k2.o,bF,bF,bF,bF] (A4 h3 (gc k2 (gc (fW h2) (gc (bE h0) (gc (cA h1) (gc (bE h0) (Ay (cA h1) (Az (bE h0) (gc k1 (Ay (bE h0) gn))))))))))
end
section
variable(h0:x1≠3)(h1:(decide (x1≤4))=true)(h2:(within x0 1 9999)=true)
include h0 h1 h2
theorem bZa(h3:(within x1 0 9)=true)(h4:(within x2 0 10000)=true)(Aq:r0=(within x4 0 36000)):FV Tp 202 [(.p (.agg [(aA x0),(aA x1),(aA x2),(aA x3),(aA x4),(aA x5)]))] base (pB r0) []:=by
 subst Aq;have k1:=fk 1 (eE x1) rfl;have k2:=fk 1 (bO x0 1 9999) rfl;have k3:=fk 1 (bO x1 0 9) rfl;have k4:=fk 1 (bO x2 0 10000) rfl;have k5:=fk 1 (bO x4 0 36000) rfl;exact FV.fi func202 ([bF,bF,bF,k1.o]++rF 8++[k2.o,bT,bT,bT,k3.o,bT,bT,bT,bT,k4.o]++rT 5++[k5.o,bT]) (gc h4 (gc k5 (A4 h4 (gc h3 (gc k4 (Ay h3 (gc h2 (gc k3 (Ay h2 (gc k2 (gc (bE h0) (gc (aL h1) (gc (bE h0) (Ay (aL h1) (Az (bE h0) (gc k1 (Ay (bE h0) gn)))))))))))))))))
theorem bZb(h3:(within x1 0 9)=true)(h4:(within x2 0 10000)=false):FV Tp 202 [(.p (.agg [(aA x0),(aA x1),(aA x2),(aA x3),(aA x4),(aA x5)]))] base (pB false) []:=have k1:=fk 1 (eE x1) rfl;have k2:=fk 1 (bO x0 1 9999) rfl;have k3:=fk 1 (bO x1 0 9) rfl;have k4:=fk 1 (bO x2 0 10000) rfl;FV.fi func202 ([bF,bF,bF,k1.o]++rF 8++[k2.o,bT,bT,bT,k3.o,bT,bT,bT,bT,k4.o,bT]++rF 5) (Cf h4 (gc h3 (gc k4 (Ay h3 (gc h2 (gc k3 (Ay h2 (gc k2 (gc (bE h0) (gc (aL h1) (gc (bE h0) (Ay (aL h1) (Az (bE h0) (gc k1 (Ay (bE h0) gn)))))))))))))))
theorem bZc(h3:(within x1 0 9)=false):FV Tp 202 [(.p (.agg [(aA x0),(aA x1),(aA x2),(aA x3),(aA x4),(aA x5)]))] base (pB false) []:=have k1:=fk 1 (eE x1) rfl;have k2:=fk 1 (bO x0 1 9999) rfl;have k3:=fk 1 (bO x1 0 9) rfl;FV.fi func202 ([bF,bF,bF,k1.o]++rF 8++[k2.o,bT,bT,bT,k3.o,bT,bF,bF,bF,bF]) (A4 h3 (gc h2 (gc k3 (Ay h2 (gc k2 (gc (bE h0) (gc (aL h1) (gc (bE h0) (Ay (aL h1) (Az (bE h0) (gc k1 (Ay (bE h0) gn))))))))))))
end
theorem bZd(h0:x1≠3)(h1:(decide (x1≤4))=true)(h2:(within x0 1 9999)=false):FV Tp 202 [(.p (.agg [(aA x0),(aA x1),(aA x2),(aA x3),(aA x4),(aA x5)]))] base (pB false) []:=have k1:=fk 1 (eE x1) rfl;have k2:=fk 1 (bO x0 1 9999) rfl;FV.fi func202 ([bF,bF,bF,k1.o]++rF 8++[k2.o,bF,bF,bF,bF]) (A4 h2 (gc k2 (gc (bE h0) (gc (aL h1) (gc (bE h0) (Ay (aL h1) (Az (bE h0) (gc k1 (Ay (bE h0) gn)))))))))
theorem cGm(x0 x1 x2 x3 x4 x5:Int){base:Nat}:FV Tp 202 [.p (dcE x0 x1 x2 x3 x4 x5)] base (pB (dcB [x0,x1,x2,x3,x4,x5])) []:=by
 by_cases h3:x1=3
 ·have hm:nH x1=0:=by unfold nH;rw [if_pos (.inl h3)]
  cases Dw:within x0 1 9999 with
  | false=>rw [iP,Dw,Bool.false_and];exact cGf h3 Dw
  | true =>
  cases Ej:within x1 0 9 with
  | false=>rw [iP,Dw,Ej,iW,Bool.false_and];exact cGe h3 Dw Ej
  | true =>
  cases Ev:within x2 0 10000 with
  | false=>rw [iP,Dw,Ej,Ev,iW,iW,Bool.false_and];exact cGd h3 Dw Ej Ev
  | true =>
  rw [iP,Dw,Ej,Ev,iW,iW,iW,hm];exact cGc h3 Dw Ej Ev rfl
 by_cases h4:x1≤4
 ·have hm:nH x1=36000:=by unfold nH;rw [if_neg (by omega)]
  have It:decide (x1≤4)=true:=by simpa using h4
  cases Dw:within x0 1 9999 with
  | false=>rw [iP,Dw,Bool.false_and];exact bZd h3 It Dw
  | true =>
  cases Ej:within x1 0 9 with
  | false=>rw [iP,Dw,Ej,iW,Bool.false_and];exact bZc h3 It Dw Ej
  | true =>
  cases Ev:within x2 0 10000 with
  | false=>rw [iP,Dw,Ej,Ev,iW,iW,Bool.false_and];exact bZb h3 It Dw Ej Ev
  | true =>
  rw [iP,Dw,Ej,Ev,iW,iW,iW,hm];exact bZa h3 It Dw Ej Ev rfl
 have It:decide (x1≤4)=false:=by simpa using h4
 by_cases h6:x1=6
 ·have hm:nH x1=36000:=by unfold nH;rw [if_neg (by omega)]
  cases Dw:within x0 1 9999 with
  | false=>rw [iP,Dw,Bool.false_and];exact bYz h3 It h6 Dw
  | true =>
  cases Ej:within x1 0 9 with
  | false=>rw [iP,Dw,Ej,iW,Bool.false_and];exact bYy h3 It h6 Dw Ej
  | true =>
  cases Ev:within x2 0 10000 with
  | false=>rw [iP,Dw,Ej,Ev,iW,iW,Bool.false_and];exact cGl h3 It h6 Dw Ej Ev
  | true =>
  rw [iP,Dw,Ej,Ev,iW,iW,iW,hm];exact cGk h3 It h6 Dw Ej Ev rfl
 have hm:nH x1=0:=by unfold nH;rw [if_pos (by omega)]
 cases Dw:within x0 1 9999 with
 | false=>rw [iP,Dw,Bool.false_and];exact cGj h3 It h6 Dw
 | true =>
 cases Ej:within x1 0 9 with
 | false=>rw [iP,Dw,Ej,iW,Bool.false_and];exact cGi h3 It h6 Dw Ej
 | true =>
 cases Ev:within x2 0 10000 with
 | false=>rw [iP,Dw,Ej,Ev,iW,iW,Bool.false_and];exact cGh h3 It h6 Dw Ej Ev
 | true =>
 rw [iP,Dw,Ej,Ev,iW,iW,iW,hm];exact cGg h3 It h6 Dw Ej Ev rfl

def oB(l:List Int)(i:Nat)(me:List (Value × PV))(mk:Nat):St:=⟨fr 19 [(3,(.mp 0)),(7,(.p (aE l))),(8,(pI (l.length:Int))),(9,(pI (i:Int)))],[some (.mp me mk)]⟩
theorem cMj(hl0:aF Tp 0 aFe (oB l 0 [] 0) (.exit 0) (oB l Aw (eW Qx) Qx.length)):FV Tp 203 [(.p (aE l))] base (pB false) []:=FV.fi func203 [hl0.k 8 (gI cz [0])] (gc hl0.code gn)
theorem cMk(hl0:aF Tp 0 aFe (oB l 0 [] 0) .ret (cD (oB l Aw (eW Qx) Qx.length) [(2,(.kb true))])):FV Tp 203 [(.p (aE l))] base (pB true) []:=FV.fi func203 [hl0.k 8 (gI cz [0])] (gc hl0.code gn)
section
variable(h0:(i:Int)<(l.length:Int))(h1:l[i]? = some Ad)(h2:cG .i64 (eW m) (.int .i64 Ad))
include h0 h1 h2
theorem bSb{Ab:Bool}(h3:(dU (eW m) (.int .i64 Ad))=true)(h4:gP (eW m) (.int .i64 Ad)=some (blP Ab))(h5:Ab=true):aB Tp 0 aFe (oB l i (eW m) m.length) .ret (cD (oB l i (eW m) m.length) [(2,(.kb true))]):=aB.fi (gI da [0]) [bT,.x (aA Ad),bT,.x (blP Ab),bT] (gc h5 (gc h4 (gc h3 (gc h2 (gc (atm aA h1) (gc (ixn aA h1) (g0 h0)))))))
theorem bSc{m':List Int}(h3:(dU (eW m) (.int .i64 Ad))=false)(h4:dv i)(Ak:i'=(i+1))(Sb:eW m'=((eW m)++[((.int .i64 Ad),(blP true))]))(Sc:m'.length=(m.length+1)):aB Tp 0 aFe (oB l i (eW m) m.length) .normal (oB l i' (eW m') m'.length):=by
 subst Ak;rw [Sb,Sc];exact aB.fi (gI cz [0]) [bT,.x (aA Ad),bF,bF,bF] (gc h4 (gc h3 (gc h2 (gf (gc h3 (gc h2 (gc (atm aA h1) (gc (ixn aA h1) (g0 h0)))))))))
end
theorem bSd(h0:(l.length:Int)≤(i:Int)):aB Tp 0 aFe (oB l i (eW m) m.length) (.exit 0) (oB l i (eW m) m.length):=aB.fi (gI cz [0]) [bF] (gc (aQ h0) gn)
def sS(sk:Lqq)(i on:Nat)(oc:List PV):St:=⟨fr 20 [(2,(.p cR)),(3,(.own 0)),(7,(.p (fS sk))),(8,(pI (sk.length:Int))),(9,(pI (i:Int)))],[some (.row 3 on oc)]⟩
theorem cGn(hl0:aF Tp 0 bEc (sS sk 0 0 []) (.exit 0) (sS sk Aw A5.length (A5.map aA))):FV Tp 135 [(.p (.agg [(aA dl),(fS sk),(fS dc)]))] base (.own base) [(base,(.row 3 A5.length (A5.map aA)))]:=FV.fi func135 [hl0.k 8 (gN da [1] [(3,3)])] (gc hl0.code gn)
theorem bJm(h0:(i:Int)<(sk.length:Int))(h1:sk[i]? = some [Aa,Ab])(h2:uni 2 sk)(h3:[(aA Aa)].length=1*1∧o.length+1≤1000000)(h4:dv i)(Ak:i'=(i+1))(A6:o'.length=(o.length+1))(A7:o'.map aA=((o.map aA)++[(aA Aa)])):aB Tp 0 bEc (sS sk i o.length (o.map aA)) .normal (sS sk i' o'.length (o'.map aA)):=by
 subst Ak;rw [A6,A7];exact aB.fi (gI da [3]) [bT,.x (.agg [(aA Aa),(aA Ab)])] (gc h4 (gc h3 (gfl h2 h1 (g0 h0))))
theorem bJn(h0:(sk.length:Int)≤(i:Int)):aB Tp 0 bEc (sS sk i o.length (o.map aA)) (.exit 0) (sS sk i o.length (o.map aA)):=aB.fi (gI da [0]) [bF] (gc (aQ h0) gn)
def sU(dc:Lqq)(i on:Nat)(oc:List PV):St:=⟨fr 20 [(2,(.p cR)),(3,(.own 0)),(7,(.p (fS dc))),(8,(pI (dc.length:Int))),(9,(pI (i:Int)))],[some (.row 3 on oc)]⟩
theorem cGo(hl0:aF Tp 0 bEd (sU dc 0 0 []) (.exit 0) (sU dc Aw A5.length (A5.map aA))):FV Tp 204 [(.p (.agg [(aA dl),(fS sk),(fS dc)]))] base (.own base) [(base,(.row 3 A5.length (A5.map aA)))]:=FV.fi func204 [hl0.k 8 (gN da [1] [(3,3)])] (gc hl0.code gn)
theorem bJo{Af Ah Ag Ai:Int}(h0:(i:Int)<(dc.length:Int))(h1:dc[i]? = some [Aa,Ab,Af,Ah,Ag,Ai])(h2:uni 6 dc)(h3:[(aA Aa)].length=1*1∧o.length+1≤1000000)(h4:dv i)(Ak:i'=(i+1))(A6:o'.length=(o.length+1))(A7:o'.map aA=((o.map aA)++[(aA Aa)])):aB Tp 0 bEd (sU dc i o.length (o.map aA)) .normal (sU dc i' o'.length (o'.map aA)):=by
 subst Ak;rw [A6,A7];exact aB.fi (gI da [3]) [bT,.x (.agg [(aA Aa),(aA Ab),(aA Af),(aA Ah),(aA Ag),(aA Ai)])] (gc h4 (gc h3 (gfl h2 h1 (g0 h0))))
theorem bJp(h0:(dc.length:Int)≤(i:Int)):aB Tp 0 bEd (sU dc i o.length (o.map aA)) (.exit 0) (sU dc i o.length (o.map aA)):=aB.fi (gI da [0]) [bF] (gc (aQ h0) gn)
theorem bEe(l:List Int)(hl:l.length≤1000)(hb:∀ x∈l,-1000000≤x∧x≤1000000):∀ (d i:Nat),i+d=l.length→(l.take i).Nodup →
  (l.Nodup∧aF Tp 0 aFe (oB l i (eW (l.take i)) (l.take i).length) (.exit 0) (oB l l.length (eW l) l.length))∨(¬ l.Nodup∧∃ i' m',aF Tp 0 aFe (oB l i (eW (l.take i)) (l.take i).length) .ret (cD (oB l i' (eW m') m'.length) [(2,.kb true)]))
 | 0,i,h,hn=>by
  obtain rfl:i=l.length:=by omega
  rw [List.take_length] at hn ⊢
  exact .inl ⟨hn,.exit (bSd (by omega)) (by simp)⟩
 | d+1,i,h,hn=>by
  have hi:i<l.length:=by omega
  have hx:l[i]? = some l[i]:=Av hi;have et:l.take (i+1)=l.take i++[l[i]]:=by rw [List.take_add_one,hx];rfl
  have hk:=aYl hn (fun x hx=>hb x (List.mem_of_mem_take hx)) (hb _ (fG hi))
  by_cases hm:l[i]∈l.take i
  ·refine .inr ⟨fun hnd => ?_,i,l.take i,.exit (bSb (by omega) hx hk (bSf hm) (bJq hm) rfl) (by simp)⟩
   obtain ⟨j,hj,e⟩:=List.mem_iff_getElem.1 hm;rw [jV] at hj
   rw [List.getElem_take] at e
   exact List.pairwise_iff_getElem.1 hnd j i (by omega) hi (by omega) e
  ·have Rp:(l.take (i+1)).Nodup:=by
    rw [et,List.nodup_append];exact ⟨hn,by simp,fun a ha b hb e=>hm (by simp at hb;rw [← hb,← e];exact ha)⟩
   have hstep:=bSc (m:=l.take i) (m':=l.take (i+1)) (i':=i+1) (by omega) hx hk (bSe hm) (aI (by omega)) rfl (by rw [et,aYk]) (by simp;omega)
   rcases bEe l hl hb d (i+1) (by omega) Rp with ⟨q1,q2⟩ | ⟨q1,i',m',q2⟩
   ·exact .inl ⟨q1,.step hstep q2⟩
   ·exact .inr ⟨q1,i',m',.step hstep q2⟩
theorem yD(l:List Int)(hl:l.length≤1000)(hb:∀ x∈l,-1000000≤x∧x≤1000000){base:Nat}:FV Tp 203 [.p (aE l)] base (pB (!decide l.Nodup)) []:=by
 rcases bEe l hl hb l.length 0 (by omega) (by simp) with ⟨q1,q2⟩ | ⟨q1,i',m',q2⟩
 ·rw [decide_eq_true q1];exact cMj q2
 ·rw [decide_eq_false q1];exact cMk q2
theorem wF(dl:Int)(sk dc:Lqq)(h:uni 2 sk∧sk.length≤1000){base:Nat}:FV Tp 135 [.p (.agg [aA dl,.sl sk.length (sk.flatten.map aA),.sl dc.length (dc.flatten.map aA)])] base (.own base) [(base,.row 3 (aZ sk 0).length ((aZ sk 0).map aA))]:=by
 obtain ⟨hu,hl⟩:=h;have L:=aF.count (P:=Tp) (k:=0) (b:=bEc) (e := .exit 0) (R:=sS sk sk.length (aZ sk 0).length ((aZ sk 0).map aA)) sk.length (fun i=>sS sk i (aZ (sk.take i) 0).length ((aZ (sk.take i) 0).map aA))
  (fun i Bi=>by
   obtain ⟨a,b,hx⟩:=at2 hu Bi;have et:sk.take (i+1)=sk.take i++[[a,b]]:=by rw [List.take_add_one,hx];rfl
   exact bJm (o:=aZ (sk.take i) 0) (o':=aZ (sk.take (i+1)) 0) (by omega) hx hu ⟨rfl,by simp [aZ];omega⟩ (aI (by omega)) rfl (by simp [aZ];omega) (by rw [et];simp [aZ]))
  (by rw [List.take_length];exact bJn (by omega)) (by simp)
 exact cGn L
theorem aNd(dl:Int)(sk dc:Lqq)(h:uni 6 dc∧dc.length≤1000){base:Nat}:FV Tp 204 [.p (.agg [aA dl,.sl sk.length (sk.flatten.map aA),.sl dc.length (dc.flatten.map aA)])] base (.own base) [(base,.row 3 (aZ dc 0).length ((aZ dc 0).map aA))]:=by
 obtain ⟨hu,hl⟩:=h;have L:=aF.count (P:=Tp) (k:=0) (b:=bEd) (e := .exit 0) (R:=sU dc dc.length (aZ dc 0).length ((aZ dc 0).map aA)) dc.length (fun i=>sU dc i (aZ (dc.take i) 0).length ((aZ (dc.take i) 0).map aA))
  (fun i Bi=>by
   obtain ⟨a,b,c,d,e,g,hx⟩:=Ua hu Bi;have et:dc.take (i+1)=dc.take i++[[a,b,c,d,e,g]]:=by rw [List.take_add_one,hx];rfl
   exact bJo (o:=aZ (dc.take i) 0) (o':=aZ (dc.take (i+1)) 0) (by omega) hx hu ⟨rfl,by simp [aZ];omega⟩ (aI (by omega)) rfl (by simp [aZ];omega) (by rw [et];simp [aZ]))
  (by rw [List.take_length];exact bJp (by omega)) (by simp)
 exact cGo L
end
section
variable {r0:Bool}{v dl x0 x1 x2 x3 x4 x5 Ad Aa Ab Af Ah Ag Ai:Int}{l dc sk:Lqq}{i i' Aw base:Nat}
variable {dl:Int}{sk dc:Lqq}

noncomputable abbrev kU:Code:=sub (cd Tryz.f277) [1,0,1,0,0]
noncomputable abbrev aKh:Code:=sub (cd Tryz.f20) [1,0,1,0,0]
noncomputable abbrev aKi:Code:=sub (cd Tryz.f276) [1,0,1,0,0]
def lE(l:List Int)(v:Int)(i:Nat):St:=⟨fr 19 [(0,(.p (aE l))),(1,(pI v)),(7,(pI (l.length:Int))),(8,(pI (i:Int)))],[]⟩
theorem cFl{l:List Int}(hl0:aF Tp 0 aKh (lE l v 0) (.exit 0) (lE l v Aw)):FV Tp 20 [(.p (aE l)),(pI v)] base (pI (-1)) []:=FV.fi func20 [hl0.k 6 (gZ dq)] (gc hl0.code gn)
theorem cFm{l:List Int}(hl0:aF Tp 0 aKh (lE l v 0) .ret (cD (lE l v Aw) [(4,(pI (Aw:Int)))])):FV Tp 20 [(.p (aE l)),(pI v)] base (pI (Aw:Int)) []:=FV.fi func20 [hl0.k 6 (gZ dq)] (gc hl0.code gn)
section
variable{l:List Int}(h0:(i:Int)<(l.length:Int))(h1:l[i]? = some Ad)
include h0 h1
theorem bJj(h2:v=Ad):aB Tp 0 aKh (lE l v i) .ret (cD (lE l v i) [(4,(pI (i:Int)))]):=aB.fi (gZ db) [bT,.x (aA Ad),bT] (gc (cT h2) (gc (atm aA h1) (gc (ixn aA h1) (g0 h0))))
theorem bJk(h2:v≠Ad)(h3:dv i)(Ak:i'=(i+1)):aB Tp 0 aKh (lE l v i) .normal (lE l v i'):=by
 subst Ak;exact aB.fi (gZ dq) [bT,.x (aA Ad),bF] (gc h3 (gc (bE h2) (gc (atm aA h1) (gc (ixn aA h1) (g0 h0)))))
end
theorem bJl{l:List Int}(h0:(l.length:Int)≤(i:Int)):aB Tp 0 aKh (lE l v i) (.exit 0) (lE l v i):=aB.fi (gZ dq) [bF] (gc (aQ h0) gn)
theorem aXw(l:List Int)(v:Int)(hl:l.length≤1000){base:Nat}:FV Tp 20 [.p (aE l),.p (aA v)] base (pI (fN (fun x=>decide (v=x)) l)) []:=by
 rcases aF.find (P:=Tp) (k:=0) (b:=aKh) (fun i=>lE l v i) (fun i _=>cD (lE l v i) [(4,.p (aA (i:Int)))]) (lE l v l.length) .ret (.exit 0) (by simp) (by simp) (fun x=>decide (v=x)) l
  (fun i x hx hp=>bJk (by have:=aT hx;omega) hx (by simpa using hp) (aI (by have:=aT hx;omega)) rfl)
  (fun i x hx hp=>bJj (by have:=aT hx;omega) hx (by simpa using hp))
  (bJl (l:=l) (i:=l.length) (by omega)) with ⟨i,x,h1,h2,h3,h4⟩ | ⟨h1,h2,h3⟩
 ·rw [eH h2];exact cFm h4
 ·rw [eT h1];exact cFl h3
theorem cFn{l:List Int}(h0:l.length≤1000)(Aq:r0=(decide ((fN (fun x=>decide (v=x)) l) ≥ 0))):FV Tp 22 [(.p (aE l)),(pI v)] base (pB r0) []:=by
 subst Aq;have k1:=fk 0 (aXw l v h0) rfl;exact FV.fi func22 [k1.o] (gc k1 gn)
theorem aNc(l:List Int)(v:Int):decide (fN (fun x=>decide (v=x)) l ≥ 0)=l.contains v:=by
 rw [gT]
 induction l with
 | nil=>rfl
 | cons a l ih=>rw [List.any_cons,ih,List.contains_cons];rfl
theorem rA(l:List Int)(v:Int)(hl:l.length≤1000){base:Nat}:FV Tp 22 [.p (aE l),.p (aA v)] base (pB (l.contains v)) []:=cFn hl (aNc l v).symm
theorem cFo(h0:(decide (x1≤4))=true)(Aq:r0=(x5 == 0)):FV Tp 206 [(.p (.agg [(aA x0),(aA x1),(aA x2),(aA x3),(aA x4),(aA x5)]))] base (pB r0) []:=by
 subst Aq;have k1:=fk 1 (eE x1) rfl;exact FV.fi func206 [k1.o,bT] (gc h0 (gc k1 gn))
theorem cFp(h0:(decide (x1≤4))=false)(h1:inR (x0-1))(Aq:r0=(within x5 1 (x0-1))):FV Tp 206 [(.p (.agg [(aA x0),(aA x1),(aA x2),(aA x3),(aA x4),(aA x5)]))] base (pB r0) []:=by
 subst Aq;have k1:=fk 1 (eE x1) rfl;have k2:=fk 1 (bO x5 1 (x0-1)) rfl;exact FV.fi func206 [k1.o,bF,k2.o] (gc k2 (gc h1 (gc h0 (gc k1 gn))))
def orB(x:List Int):Bool:=if x.getD 1 0≤4 then x.getD 5 0 == 0 else within (x.getD 5 0) 1 (x.getD 0 0-1)
theorem cFq(a b c d e f:Int)(h:inR (a-1)){base:Nat}:FV Tp 206 [.p (dcE a b c d e f)] base (pB (orB [a,b,c,d,e,f])) []:=by
 by_cases hb:b≤4
 ·exact cFo (by simpa using hb) (show (if b≤4 then f == 0 else within f 1 (a-1))=_ by rw [if_pos hb])
 ·exact cFp (by simpa using hb) h (show (if b≤4 then f == 0 else within f 1 (a-1))=_ by rw [if_neg hb])
theorem cFr(h0:(decide (x1≤4))=true)(h1:uni 2 sk∧sk.length≤1000)(h2:(aZ sk 0).length≤1000)(Aq:r0=((aZ sk 0).contains x3)):FV Tp 205 [(.p (.agg [(aA x0),(aA x1),(aA x2),(aA x3),(aA x4),(aA x5)])),(.rp [(aA dl),(fS sk),(fS dc)] 0)] base (pB r0) []:=by
 subst Aq;have k1:=fk 1 (eE x1) rfl;have k2:=fk 1 (wF dl sk dc h1) rfl;exact FV.fi func205 [k1.o,bT,.x (.agg [(aA dl),(fS sk),(fS dc)]),k2.o,.c (pB ((aZ sk 0).contains x3)) []] (gt (FC Tp 22 [(.own 1),(pI x3)] [(1,(.row 3 ((aZ sk 0).length) ((aZ sk 0).map aA)))] 9 (pB ((aZ sk 0).contains x3)) []) (fv (rA (aZ sk 0) x3 h2)) (gc k2 (gr (.agg [(aA dl),(fS sk),(fS dc)]) (gt (0+3≤[(aA dl),(fS sk),(fS dc)].length) (by first | decide | simp) (gc h0 (gc k1 gn))))))
theorem cFs(h0:(decide (x1≤4))=false)(Aq:r0=(x3 == 0)):FV Tp 205 [(.p (.agg [(aA x0),(aA x1),(aA x2),(aA x3),(aA x4),(aA x5)])),(.rp [(aA dl),(fS sk),(fS dc)] 0)] base (pB r0) []:=by
 subst Aq;have k1:=fk 1 (eE x1) rfl;exact FV.fi func205 [k1.o,bF] (gc h0 (gc k1 gn))
def inB(sk:Lqq)(x:List Int):Bool:=if x.getD 1 0≤4 then (aZ sk 0).contains (x.getD 3 0) else x.getD 3 0 == 0
abbrev kF(dl:Int)(sk dc:Lqq):List PV:=[aA dl,.sl sk.length (sk.flatten.map aA),.sl dc.length (dc.flatten.map aA)]
theorem cFt(a b c d e f dl:Int)(sk dc:Lqq)(h:uni 2 sk∧sk.length≤1000){base:Nat}:FV Tp 205 [.p (dcE a b c d e f),.rp (kF dl sk dc) 0] base (pB (inB sk [a,b,c,d,e,f])) []:=by
 by_cases hb:b≤4
 ·exact cFr (by simpa using hb) h (by simpa [aZ] using h.2) (show (if b≤4 then (aZ sk 0).contains d else d == 0)=_ by rw [if_pos hb])
 ·exact cFs (by simpa using hb) (show (if b≤4 then (aZ sk 0).contains d else d == 0)=_ by rw [if_neg hb])
theorem bYa(Aq:r0=(!(skB [x0,x1]))):FMM Tp 236 [(.p (.agg [(aA x0),(aA x1)])),(.ptr 0 0)] [some (.box 269 [(.fn 200 [] [])])] (pB r0) [some (.box 269 [(.fn 200 [] [])])]:=by
 subst Aq;have k1:=fk 2 (cGb x0 x1) rfl;exact FMM.fi 1 gE func236 [k1.o] (gc k1 gn)
theorem bDy(x0 x1:Int):FMM Tp 236 [(.p (.agg [(aA x0),(aA x1)])),.ptr 0 0] [some (.box 269 [(.fn 200 [] [])])] (pB (!(skB [x0,x1]))) [some (.box 269 [(.fn 200 [] [])])]:=bYa rfl
def iC(l:Lqq)(i:Nat):St:=⟨fr 19 [(0,(.p (fS l))),(1,(.fn 236 [] [(.ptr 0 0)])),(7,(pI (l.length:Int))),(8,(pI (i:Int)))],[some (.box 269 [(.fn 200 [] [])])]⟩
theorem bYb(hl0:aF Tp 1 aKi (iC l 0) (.exit 0) (iC l Aw)):FMM Tp 276 [(.p (fS l)),(.fn 236 [] [(.ptr 0 0)])] [some (.box 269 [(.fn 200 [] [])])] (pI (-1)) [some (.box 269 [(.fn 200 [] [])])]:=FMM.fi 1 gE func276 [hl0.k 6 (gZ dq)] (gc hl0.code gn)
theorem bYc(hl0:aF Tp 1 aKi (iC l 0) .ret (cD (iC l Aw) [(4,(pI (Aw:Int)))])):FMM Tp 276 [(.p (fS l)),(.fn 236 [] [(.ptr 0 0)])] [some (.box 269 [(.fn 200 [] [])])] (pI (Aw:Int)) [some (.box 269 [(.fn 200 [] [])])]:=FMM.fi 1 gE func276 [hl0.k 6 (gZ dq)] (gc hl0.code gn)
section
variable(h0:(i:Int)<(l.length:Int))(h1:l[i]? = some [Aa,Ab])(h2:uni 2 l)
include h0 h1 h2
theorem aXx(h3:(skB [Aa,Ab])=false):aB Tp 1 aKi (iC l i) .ret (cD (iC l i) [(4,(pI (i:Int)))]):=have k1:=mq [0] 1 (bDy Aa Ab);aB.fi (gZ db) [bT,.x (.agg [(aA Aa),(aA Ab)]),k1.o,bT] (gc (cA h3) (gc k1 (gfl h2 h1 (g0 h0))))
theorem aXy(h3:(skB [Aa,Ab])=true)(h4:dv i)(Ak:i'=(i+1)):aB Tp 1 aKi (iC l i) .normal (iC l i'):=by
 subst Ak;have k1:=mq [0] 1 (bDy Aa Ab);exact aB.fi (gZ dq) [bT,.x (.agg [(aA Aa),(aA Ab)]),k1.o,bF] (gc h4 (gc (aL h3) (gc k1 (gfl h2 h1 (g0 h0)))))
end
theorem aXz(h0:(l.length:Int)≤(i:Int)):aB Tp 1 aKi (iC l i) (.exit 0) (iC l i):=aB.fi (gZ dq) [bF] (gc (aQ h0) gn)
theorem bYd(l:Lqq)(hl:l.length≤1000)(hu:uni 2 l):FMM Tp 276 [.p (fS l),(.fn 236 [] [(.ptr 0 0)])] [some (.box 269 [(.fn 200 [] [])])] (pI (fN (fun x => !(skB x)) l)) [some (.box 269 [(.fn 200 [] [])])]:=by
 rcases aF.find (P:=Tp) (k:=1) (b:=aKi) (fun i=>iC l i) (fun i _=>cD (iC l i) [(4,.p (aA (i:Int)))]) (iC l l.length) .ret (.exit 0) (by simp) (by simp) (fun x => !(skB x)) l
  (fun i x hx hp=>by obtain ⟨a,b,rfl⟩:=len2 (hu _ (Bp hx));exact aXy (by have:=aT hx;omega) hx hu (by simpa using hp) (aI (by have:=aT hx;omega)) rfl)
  (fun i x hx hp=>by obtain ⟨a,b,rfl⟩:=len2 (hu _ (Bp hx));exact aXx (by have:=aT hx;omega) hx hu (by simpa using hp))
  (aXz (l:=l) (i:=l.length) (by omega)) with ⟨i,x,h1,h2,h3,h4⟩ | ⟨h1,h2,h3⟩
 ·rw [eH h2];exact bYc h4
 ·rw [eT h1];exact bYb h3
theorem bYe(h0:l.length≤1000)(h1:uni 2 l)(Aq:r0=(decide ((fN (fun x => !(skB x)) l) ≥ 0))):FMM Tp 235 [(.p (fS l)),(.fn 236 [] [(.ptr 0 0)])] [some (.box 269 [(.fn 200 [] [])])] (pB r0) [some (.box 269 [(.fn 200 [] [])])]:=by
 subst Aq;have k1:=mq [0] 1 (bYd l h0 h1);exact FMM.fi 1 gE func235 [k1.o] (gc k1 gn)
theorem bYf(l:Lqq)(hl:l.length≤1000)(hu:uni 2 l):FMM Tp 235 [.p (fS l),(.fn 236 [] [(.ptr 0 0)])] [some (.box 269 [(.fn 200 [] [])])] (pB (l.any (fun x => !(skB x)))) [some (.box 269 [(.fn 200 [] [])])]:=bYe hl hu (gT _ _).symm
theorem cFu(h0:l.length≤1000)(h1:uni 2 l)(Aq:r0=(!(l.any (fun x => !(skB x))))):FV Tp 199 [(.p (fS l)),(.fn 200 [] [])] base (pB r0) []:=by
 subst Aq;have k1:=mq [0] 1 (bYf l h0 h1);exact FV.fi func199 [k1.o] (gc k1 gn)
theorem wE(l:Lqq)(hl:l.length≤1000)(hu:uni 2 l){base:Nat}:FV Tp 199 [.p (fS l),(.fn 200 [] [])] base (pB (l.all (skB))) []:=cFu hl hu (by rw [List.all_eq_not_any_not])
theorem bYg(Aq:r0=(!(dcB [x0,x1,x2,x3,x4,x5]))):FMM Tp 238 [(.p (.agg [(aA x0),(aA x1),(aA x2),(aA x3),(aA x4),(aA x5)])),(.ptr 0 0)] [some (.box 115 [(.fn 202 [] [])])] (pB r0) [some (.box 115 [(.fn 202 [] [])])]:=by
 subst Aq;have k1:=fk 2 (cGm x0 x1 x2 x3 x4 x5) rfl;exact FMM.fi 1 gE func238 [k1.o] (gc k1 gn)
theorem bDz(x0 x1 x2 x3 x4 x5:Int):FMM Tp 238 [(.p (.agg [(aA x0),(aA x1),(aA x2),(aA x3),(aA x4),(aA x5)])),.ptr 0 0] [some (.box 115 [(.fn 202 [] [])])] (pB (!(dcB [x0,x1,x2,x3,x4,x5]))) [some (.box 115 [(.fn 202 [] [])])]:=bYg rfl
def iD(l:Lqq)(i:Nat):St:=⟨fr 19 [(0,(.p (fS l))),(1,(.fn 238 [] [(.ptr 0 0)])),(7,(pI (l.length:Int))),(8,(pI (i:Int)))],[some (.box 115 [(.fn 202 [] [])])]⟩
theorem bYh(hl0:aF Tp 1 kU (iD l 0) (.exit 0) (iD l Aw)):FMM Tp 277 [(.p (fS l)),(.fn 238 [] [(.ptr 0 0)])] [some (.box 115 [(.fn 202 [] [])])] (pI (-1)) [some (.box 115 [(.fn 202 [] [])])]:=FMM.fi 1 gE func277 [hl0.k 6 (gZ dq)] (gc hl0.code gn)
theorem bYi(hl0:aF Tp 1 kU (iD l 0) .ret (cD (iD l Aw) [(4,(pI (Aw:Int)))])):FMM Tp 277 [(.p (fS l)),(.fn 238 [] [(.ptr 0 0)])] [some (.box 115 [(.fn 202 [] [])])] (pI (Aw:Int)) [some (.box 115 [(.fn 202 [] [])])]:=FMM.fi 1 gE func277 [hl0.k 6 (gZ dq)] (gc hl0.code gn)
section
variable(h0:(i:Int)<(l.length:Int))(h1:l[i]? = some [Aa,Ab,Af,Ah,Ag,Ai])(h2:uni 6 l)
include h0 h1 h2
theorem aYa(h3:(dcB [Aa,Ab,Af,Ah,Ag,Ai])=false):aB Tp 1 kU (iD l i) .ret (cD (iD l i) [(4,(pI (i:Int)))]):=have k1:=mq [0] 1 (bDz Aa Ab Af Ah Ag Ai);aB.fi (gZ db) [bT,.x (.agg [(aA Aa),(aA Ab),(aA Af),(aA Ah),(aA Ag),(aA Ai)]),k1.o,bT] (gc (cA h3) (gc k1 (gfl h2 h1 (g0 h0))))
theorem aYb(h3:(dcB [Aa,Ab,Af,Ah,Ag,Ai])=true)(h4:dv i)(Ak:i'=(i+1)):aB Tp 1 kU (iD l i) .normal (iD l i'):=by
 subst Ak;have k1:=mq [0] 1 (bDz Aa Ab Af Ah Ag Ai);exact aB.fi (gZ dq) [bT,.x (.agg [(aA Aa),(aA Ab),(aA Af),(aA Ah),(aA Ag),(aA Ai)]),k1.o,bF] (gc h4 (gc (aL h3) (gc k1 (gfl h2 h1 (g0 h0)))))
end
theorem aYc(h0:(l.length:Int)≤(i:Int)):aB Tp 1 kU (iD l i) (.exit 0) (iD l i):=aB.fi (gZ dq) [bF] (gc (aQ h0) gn)
theorem bYj(l:Lqq)(hl:l.length≤1000)(hu:uni 6 l):FMM Tp 277 [.p (fS l),(.fn 238 [] [(.ptr 0 0)])] [some (.box 115 [(.fn 202 [] [])])] (pI (fN (fun x => !(dcB x)) l)) [some (.box 115 [(.fn 202 [] [])])]:=by
 rcases aF.find (P:=Tp) (k:=1) (b:=kU) (fun i=>iD l i) (fun i _=>cD (iD l i) [(4,.p (aA (i:Int)))]) (iD l l.length) .ret (.exit 0) (by simp) (by simp) (fun x => !(dcB x)) l
  (fun i x hx hp=>by obtain ⟨a,b,c,d,e,f,rfl⟩:=Bo (hu _ (Bp hx));exact aYb (by have:=aT hx;omega) hx hu (by simpa using hp) (aI (by have:=aT hx;omega)) rfl)
  (fun i x hx hp=>by obtain ⟨a,b,c,d,e,f,rfl⟩:=Bo (hu _ (Bp hx));exact aYa (by have:=aT hx;omega) hx hu (by simpa using hp))
  (aYc (l:=l) (i:=l.length) (by omega)) with ⟨i,x,h1,h2,h3,h4⟩ | ⟨h1,h2,h3⟩
 ·rw [eH h2];exact bYi h4
 ·rw [eT h1];exact bYh h3
theorem bYk(h0:l.length≤1000)(h1:uni 6 l)(Aq:r0=(decide ((fN (fun x => !(dcB x)) l) ≥ 0))):FMM Tp 237 [(.p (fS l)),(.fn 238 [] [(.ptr 0 0)])] [some (.box 115 [(.fn 202 [] [])])] (pB r0) [some (.box 115 [(.fn 202 [] [])])]:=by
 subst Aq;have k1:=mq [0] 1 (bYj l h0 h1);exact FMM.fi 1 gE func237 [k1.o] (gc k1 gn)
theorem bYl(l:Lqq)(hl:l.length≤1000)(hu:uni 6 l):FMM Tp 237 [.p (fS l),(.fn 238 [] [(.ptr 0 0)])] [some (.box 115 [(.fn 202 [] [])])] (pB (l.any (fun x => !(dcB x)))) [some (.box 115 [(.fn 202 [] [])])]:=bYk hl hu (gT _ _).symm
theorem cFv(h0:l.length≤1000)(h1:uni 6 l)(Aq:r0=(!(l.any (fun x => !(dcB x))))):FV Tp 201 [(.p (fS l)),(.fn 202 [] [])] base (pB r0) []:=by
 subst Aq;have k1:=mq [0] 1 (bYl l h0 h1);exact FV.fi func201 [k1.o] (gc k1 gn)
theorem zV(l:Lqq)(hl:l.length≤1000)(hu:uni 6 l){base:Nat}:FV Tp 201 [.p (fS l),(.fn 202 [] [])] base (pB (l.all (dcB))) []:=cFv hl hu (by rw [List.all_eq_not_any_not])
theorem bYm(h0:inR (x0-1))(Aq:r0=(!(orB [x0,x1,x2,x3,x4,x5]))):FMM Tp 238 [(.p (.agg [(aA x0),(aA x1),(aA x2),(aA x3),(aA x4),(aA x5)])),(.ptr 0 0)] [some (.box 115 [(.fn 206 [] [])])] (pB r0) [some (.box 115 [(.fn 206 [] [])])]:=by
 subst Aq;have k1:=fk 2 (cFq x0 x1 x2 x3 x4 x5 h0) rfl;exact FMM.fi 1 gE func238 [k1.o] (gc k1 gn)
theorem bEa(x0 x1 x2 x3 x4 x5:Int)(he:inR ([x0,x1,x2,x3,x4,x5].getD 0 0-1)):FMM Tp 238 [(.p (.agg [(aA x0),(aA x1),(aA x2),(aA x3),(aA x4),(aA x5)])),.ptr 0 0] [some (.box 115 [(.fn 206 [] [])])] (pB (!(orB [x0,x1,x2,x3,x4,x5]))) [some (.box 115 [(.fn 206 [] [])])]:=bYm he rfl
def iE(l:Lqq)(i:Nat):St:=⟨fr 19 [(0,(.p (fS l))),(1,(.fn 238 [] [(.ptr 0 0)])),(7,(pI (l.length:Int))),(8,(pI (i:Int)))],[some (.box 115 [(.fn 206 [] [])])]⟩
theorem bYn(hl0:aF Tp 1 kU (iE l 0) (.exit 0) (iE l Aw)):FMM Tp 277 [(.p (fS l)),(.fn 238 [] [(.ptr 0 0)])] [some (.box 115 [(.fn 206 [] [])])] (pI (-1)) [some (.box 115 [(.fn 206 [] [])])]:=FMM.fi 1 gE func277 [hl0.k 6 (gZ dq)] (gc hl0.code gn)
theorem bYo(hl0:aF Tp 1 kU (iE l 0) .ret (cD (iE l Aw) [(4,(pI (Aw:Int)))])):FMM Tp 277 [(.p (fS l)),(.fn 238 [] [(.ptr 0 0)])] [some (.box 115 [(.fn 206 [] [])])] (pI (Aw:Int)) [some (.box 115 [(.fn 206 [] [])])]:=FMM.fi 1 gE func277 [hl0.k 6 (gZ dq)] (gc hl0.code gn)
section
variable(h0:(i:Int)<(l.length:Int))(h1:l[i]? = some [Aa,Ab,Af,Ah,Ag,Ai])(h2:uni 6 l)(h3:inR ([Aa,Ab,Af,Ah,Ag,Ai].getD 0 0-1))
include h0 h1 h2 h3
theorem aYd(h4:(orB [Aa,Ab,Af,Ah,Ag,Ai])=false):aB Tp 1 kU (iE l i) .ret (cD (iE l i) [(4,(pI (i:Int)))]):=have k1:=mq [0] 1 (bEa Aa Ab Af Ah Ag Ai h3);aB.fi (gZ db) [bT,.x (.agg [(aA Aa),(aA Ab),(aA Af),(aA Ah),(aA Ag),(aA Ai)]),k1.o,bT] (gc (cA h4) (gc k1 (gfl h2 h1 (g0 h0))))
theorem aYe(h4:(orB [Aa,Ab,Af,Ah,Ag,Ai])=true)(h5:dv i)(Ak:i'=(i+1)):aB Tp 1 kU (iE l i) .normal (iE l i'):=by
 subst Ak;have k1:=mq [0] 1 (bEa Aa Ab Af Ah Ag Ai h3);exact aB.fi (gZ dq) [bT,.x (.agg [(aA Aa),(aA Ab),(aA Af),(aA Ah),(aA Ag),(aA Ai)]),k1.o,bF] (gc h5 (gc (aL h4) (gc k1 (gfl h2 h1 (g0 h0)))))
end
theorem aYf(h0:(l.length:Int)≤(i:Int)):aB Tp 1 kU (iE l i) (.exit 0) (iE l i):=aB.fi (gZ dq) [bF] (gc (aQ h0) gn)
theorem bYp(l:Lqq)(hl:l.length≤1000)(hu:uni 6 l)(he:∀ x∈l,inR (x.getD 0 0-1)):FMM Tp 277 [.p (fS l),(.fn 238 [] [(.ptr 0 0)])] [some (.box 115 [(.fn 206 [] [])])] (pI (fN (fun x => !(orB x)) l)) [some (.box 115 [(.fn 206 [] [])])]:=by
 rcases aF.find (P:=Tp) (k:=1) (b:=kU) (fun i=>iE l i) (fun i _=>cD (iE l i) [(4,.p (aA (i:Int)))]) (iE l l.length) .ret (.exit 0) (by simp) (by simp) (fun x => !(orB x)) l
  (fun i x hx hp=>by obtain ⟨a,b,c,d,e,f,rfl⟩:=Bo (hu _ (Bp hx));exact aYe (by have:=aT hx;omega) hx hu (he _ (Bp hx)) (by simpa using hp) (aI (by have:=aT hx;omega)) rfl)
  (fun i x hx hp=>by obtain ⟨a,b,c,d,e,f,rfl⟩:=Bo (hu _ (Bp hx));exact aYd (by have:=aT hx;omega) hx hu (he _ (Bp hx)) (by simpa using hp))
  (aYf (l:=l) (i:=l.length) (by omega)) with ⟨i,x,h1,h2,h3,h4⟩ | ⟨h1,h2,h3⟩
 ·rw [eH h2];exact bYo h4
 ·rw [eT h1];exact bYn h3
theorem bYq(h0:l.length≤1000)(h1:uni 6 l)(h2:∀ x∈l,inR (x.getD 0 0-1))(Aq:r0=(decide ((fN (fun x => !(orB x)) l) ≥ 0))):FMM Tp 237 [(.p (fS l)),(.fn 238 [] [(.ptr 0 0)])] [some (.box 115 [(.fn 206 [] [])])] (pB r0) [some (.box 115 [(.fn 206 [] [])])]:=by
 subst Aq;have k1:=mq [0] 1 (bYp l h0 h1 h2);exact FMM.fi 1 gE func237 [k1.o] (gc k1 gn)
theorem bYr(l:Lqq)(hl:l.length≤1000)(hu:uni 6 l)(he:∀ x∈l,inR (x.getD 0 0-1)):FMM Tp 237 [.p (fS l),(.fn 238 [] [(.ptr 0 0)])] [some (.box 115 [(.fn 206 [] [])])] (pB (l.any (fun x => !(orB x)))) [some (.box 115 [(.fn 206 [] [])])]:=bYq hl hu he (gT _ _).symm
theorem cFw(h0:l.length≤1000)(h1:uni 6 l)(h2:∀ x∈l,inR (x.getD 0 0-1))(Aq:r0=(!(l.any (fun x => !(orB x))))):FV Tp 201 [(.p (fS l)),(.fn 206 [] [])] base (pB r0) []:=by
 subst Aq;have k1:=mq [0] 1 (bYr l h0 h1 h2);exact FV.fi func201 [k1.o] (gc k1 gn)
theorem bSa(l:Lqq)(hl:l.length≤1000)(hu:uni 6 l)(he:∀ x∈l,inR (x.getD 0 0-1)){base:Nat}:FV Tp 201 [.p (fS l),(.fn 206 [] [])] base (pB (l.all (orB))) []:=cFw hl hu he (by rw [List.all_eq_not_any_not])
theorem bYs(h0:uni 2 sk∧sk.length≤1000)(Aq:r0=(!(inB sk [x0,x1,x2,x3,x4,x5]))):FMM Tp 238 [(.p (.agg [(aA x0),(aA x1),(aA x2),(aA x3),(aA x4),(aA x5)])),(.ptr 0 0)] [some (.box 115 [(.fn 205 [] [(.rp [(aA dl),(fS sk),(fS dc)] 0)])])] (pB r0) [some (.box 115 [(.fn 205 [] [(.rp [(aA dl),(fS sk),(fS dc)] 0)])])]:=by
 subst Aq;have k1:=fk 2 (cFt x0 x1 x2 x3 x4 x5 dl sk dc h0) rfl;exact FMM.fi 1 gE func238 [k1.o] (gc k1 gn)
theorem bEb(x0 x1 x2 x3 x4 x5 dl:Int)(sk dc:Lqq)(he:uni 2 sk∧sk.length≤1000):FMM Tp 238 [(.p (.agg [(aA x0),(aA x1),(aA x2),(aA x3),(aA x4),(aA x5)])),.ptr 0 0] [some (.box 115 [(.fn 205 [] [(.rp [(aA dl),(fS sk),(fS dc)] 0)])])] (pB (!(inB sk [x0,x1,x2,x3,x4,x5]))) [some (.box 115 [(.fn 205 [] [(.rp [(aA dl),(fS sk),(fS dc)] 0)])])]:=bYs he rfl
def iF(l:Lqq)(dl:Int)(sk dc:Lqq)(i:Nat):St:=⟨fr 19 [(0,(.p (fS l))),(1,(.fn 238 [] [(.ptr 0 0)])),(7,(pI (l.length:Int))),(8,(pI (i:Int)))],[some (.box 115 [(.fn 205 [] [(.rp [(aA dl),(fS sk),(fS dc)] 0)])])]⟩
theorem bYt(hl0:aF Tp 1 kU (iF l dl sk dc 0) (.exit 0) (iF l dl sk dc Aw)):FMM Tp 277 [(.p (fS l)),(.fn 238 [] [(.ptr 0 0)])] [some (.box 115 [(.fn 205 [] [(.rp [(aA dl),(fS sk),(fS dc)] 0)])])] (pI (-1)) [some (.box 115 [(.fn 205 [] [(.rp [(aA dl),(fS sk),(fS dc)] 0)])])]:=FMM.fi 1 gE func277 [hl0.k 6 (gZ dq)] (gc hl0.code gn)
theorem bYu(hl0:aF Tp 1 kU (iF l dl sk dc 0) .ret (cD (iF l dl sk dc Aw) [(4,(pI (Aw:Int)))])):FMM Tp 277 [(.p (fS l)),(.fn 238 [] [(.ptr 0 0)])] [some (.box 115 [(.fn 205 [] [(.rp [(aA dl),(fS sk),(fS dc)] 0)])])] (pI (Aw:Int)) [some (.box 115 [(.fn 205 [] [(.rp [(aA dl),(fS sk),(fS dc)] 0)])])]:=FMM.fi 1 gE func277 [hl0.k 6 (gZ dq)] (gc hl0.code gn)
section
variable(h0:(i:Int)<(l.length:Int))(h1:l[i]? = some [Aa,Ab,Af,Ah,Ag,Ai])(h2:uni 6 l)(h3:uni 2 sk∧sk.length≤1000)
include h0 h1 h2 h3
theorem aYg(h4:(inB sk [Aa,Ab,Af,Ah,Ag,Ai])=false):aB Tp 1 kU (iF l dl sk dc i) .ret (cD (iF l dl sk dc i) [(4,(pI (i:Int)))]):=have k1:=mq [0] 1 (bEb Aa Ab Af Ah Ag Ai dl sk dc h3);aB.fi (gZ db) [bT,.x (.agg [(aA Aa),(aA Ab),(aA Af),(aA Ah),(aA Ag),(aA Ai)]),k1.o,bT] (gc (cA h4) (gc k1 (gfl h2 h1 (g0 h0))))
theorem aYh(h4:(inB sk [Aa,Ab,Af,Ah,Ag,Ai])=true)(h5:dv i)(Ak:i'=(i+1)):aB Tp 1 kU (iF l dl sk dc i) .normal (iF l dl sk dc i'):=by
 subst Ak;have k1:=mq [0] 1 (bEb Aa Ab Af Ah Ag Ai dl sk dc h3);exact aB.fi (gZ dq) [bT,.x (.agg [(aA Aa),(aA Ab),(aA Af),(aA Ah),(aA Ag),(aA Ai)]),k1.o,bF] (gc h5 (gc (aL h4) (gc k1 (gfl h2 h1 (g0 h0)))))
end
theorem aYi(h0:(l.length:Int)≤(i:Int)):aB Tp 1 kU (iF l dl sk dc i) (.exit 0) (iF l dl sk dc i):=aB.fi (gZ dq) [bF] (gc (aQ h0) gn)
theorem bYv(l:Lqq)(dl:Int)(sk dc:Lqq)(hl:l.length≤1000)(hu:uni 6 l)(he:∀ x∈l,uni 2 sk∧sk.length≤1000):FMM Tp 277 [.p (fS l),(.fn 238 [] [(.ptr 0 0)])] [some (.box 115 [(.fn 205 [] [(.rp [(aA dl),(fS sk),(fS dc)] 0)])])] (pI (fN (fun x => !(inB sk x)) l)) [some (.box 115 [(.fn 205 [] [(.rp [(aA dl),(fS sk),(fS dc)] 0)])])]:=by
 rcases aF.find (P:=Tp) (k:=1) (b:=kU) (fun i=>iF l dl sk dc i) (fun i _=>cD (iF l dl sk dc i) [(4,.p (aA (i:Int)))]) (iF l dl sk dc l.length) .ret (.exit 0) (by simp) (by simp) (fun x => !(inB sk x)) l
  (fun i x hx hp=>by obtain ⟨a,b,c,d,e,f,rfl⟩:=Bo (hu _ (Bp hx));exact aYh (by have:=aT hx;omega) hx hu (he _ (Bp hx)) (by simpa using hp) (aI (by have:=aT hx;omega)) rfl)
  (fun i x hx hp=>by obtain ⟨a,b,c,d,e,f,rfl⟩:=Bo (hu _ (Bp hx));exact aYg (by have:=aT hx;omega) hx hu (he _ (Bp hx)) (by simpa using hp))
  (aYi (l:=l) (i:=l.length) (by omega)) with ⟨i,x,h1,h2,h3,h4⟩ | ⟨h1,h2,h3⟩
 ·rw [eH h2];exact bYu h4
 ·rw [eT h1];exact bYt h3
theorem bYw(h0:l.length≤1000)(h1:uni 6 l)(h2:∀ x∈l,uni 2 sk∧sk.length≤1000)(Aq:r0=(decide ((fN (fun x => !(inB sk x)) l) ≥ 0))):FMM Tp 237 [(.p (fS l)),(.fn 238 [] [(.ptr 0 0)])] [some (.box 115 [(.fn 205 [] [(.rp [(aA dl),(fS sk),(fS dc)] 0)])])] (pB r0) [some (.box 115 [(.fn 205 [] [(.rp [(aA dl),(fS sk),(fS dc)] 0)])])]:=by
 subst Aq;have k1:=mq [0] 1 (bYv l dl sk dc h0 h1 h2);exact FMM.fi 1 gE func237 [k1.o] (gc k1 gn)
theorem bYx(l:Lqq)(dl:Int)(sk dc:Lqq)(hl:l.length≤1000)(hu:uni 6 l)(he:∀ x∈l,uni 2 sk∧sk.length≤1000):FMM Tp 237 [.p (fS l),(.fn 238 [] [(.ptr 0 0)])] [some (.box 115 [(.fn 205 [] [(.rp [(aA dl),(fS sk),(fS dc)] 0)])])] (pB (l.any (fun x => !(inB sk x)))) [some (.box 115 [(.fn 205 [] [(.rp [(aA dl),(fS sk),(fS dc)] 0)])])]:=bYw hl hu he (gT _ _).symm
theorem cFx(h0:l.length≤1000)(h1:uni 6 l)(h2:∀ x∈l,uni 2 sk∧sk.length≤1000)(Aq:r0=(!(l.any (fun x => !(inB sk x))))):FV Tp 201 [(.p (fS l)),(.fn 205 [] [(.rp [(aA dl),(fS sk),(fS dc)] 0)])] base (pB r0) []:=by
 subst Aq;have k1:=mq [0] 1 (bYx l dl sk dc h0 h1 h2);exact FV.fi func201 [k1.o] (gc k1 gn)
theorem aYj(l:Lqq)(dl:Int)(sk dc:Lqq)(hl:l.length≤1000)(hu:uni 6 l)(he:∀ x∈l,uni 2 sk∧sk.length≤1000){base:Nat}:FV Tp 201 [.p (fS l),(.fn 205 [] [(.rp [(aA dl),(fS sk),(fS dc)] 0)])] base (pB (l.all (inB sk))) []:=cFx hl hu he (by rw [List.all_eq_not_any_not])
theorem chk_p0(h0:(within (sk.length:Int) 1 30)=false):FV Tp 152 [(.p (.agg [(aA dl),(fS sk),(fS dc)]))] base (pI 2) []:=have k1:=fk 1 (bO (sk.length:Int) 1 30) rfl;FV.fi func152 ([k1.o]++rT 5) (Cf (cA h0) (gc k1 gn))
section
variable(h0:(within (sk.length:Int) 1 30)=true)
include h0
theorem chk_p1(h1:(40:Int)<(dc.length:Int)):FV Tp 152 [(.p (.agg [(aA dl),(fS sk),(fS dc)]))] base (pI 2) []:=have k1:=fk 1 (bO (sk.length:Int) 1 30) rfl;FV.fi func152 ([k1.o]++rF 5++[bT]) (gc (bG h1) (Cf (aL h0) (gc k1 gn)))
theorem chk_p2(h1:(dc.length:Int)≤40)(h2:(within dl 0 10000)=false):FV Tp 152 [(.p (.agg [(aA dl),(fS sk),(fS dc)]))] base (pI 3) []:=have k1:=fk 1 (bO (sk.length:Int) 1 30) rfl;have k2:=fk 1 (bO dl 0 10000) rfl;FV.fi func152 ([k1.o]++rF 6++[k2.o]++rT 5) (Cf (cA h2) (gc k2 (gc (aQ h1) (Cf (aL h0) (gc k1 gn)))))
end
section
variable(h0:(within (sk.length:Int) 1 30)=true)(h1:(dc.length:Int)≤40)(h2:(within dl 0 10000)=true)(h3:sk.length≤1000)(h4:uni 2 sk)
include h0 h1 h2 h3 h4
theorem chk_p3(h5:(sk.all (skB))=false):FV Tp 152 [(.p (.agg [(aA dl),(fS sk),(fS dc)]))] base (pI 3) []:=have k1:=fk 1 (bO (sk.length:Int) 1 30) rfl;have k2:=fk 1 (bO dl 0 10000) rfl;have k3:=fk 1 (wE sk h3 h4) rfl;FV.fi func152 ([k1.o]++rF 6++[k2.o,bF,bF,bF,k3.o,bF,bF]++rT 5) (Cf (cA h5) (Az (aL h2) (gc k3 (Ay (aL h2) (gc k2 (gc (aQ h1) (Cf (aL h0) (gc k1 gn))))))))
theorem chk_p4(h5:(sk.all (skB))=true)(h6:dc.length≤1000)(h7:uni 6 dc)(h8:(dc.all (dcB))=false):FV Tp 152 [(.p (.agg [(aA dl),(fS sk),(fS dc)]))] base (pI 3) []:=have k1:=fk 1 (bO (sk.length:Int) 1 30) rfl;have k2:=fk 1 (bO dl 0 10000) rfl;have k3:=fk 1 (wE sk h3 h4) rfl;have k4:=fk 1 (zV dc h6 h7) rfl;FV.fi func152 ([k1.o]++rF 6++[k2.o,bF,bF,bF,k3.o]++rF 5++[k4.o,bF,bF,bT]) (gc (cA h8) (Az (aL h5) (gc k4 (Ay (aL h5) (Az (aL h2) (gc k3 (Ay (aL h2) (gc k2 (gc (aQ h1) (Cf (aL h0) (gc k1 gn)))))))))))
theorem chk_p5(h5:(sk.all (skB))=true)(h6:dc.length≤1000)(h7:uni 6 dc)(h8:(dc.all (dcB))=true)(h9:uni 2 sk∧sk.length≤1000)(A0:(aZ sk 0).length≤1000)(Bu:∀ x∈(aZ sk 0),-1000000≤x∧x≤1000000)(Bh:(!decide (aZ sk 0).Nodup)=true):FV Tp 152 [(.p (.agg [(aA dl),(fS sk),(fS dc)]))] base (pI 5) []:=have k1:=fk 1 (bO (sk.length:Int) 1 30) rfl;have k2:=fk 1 (bO dl 0 10000) rfl;have k3:=fk 1 (wE sk h3 h4) rfl;have k4:=fk 1 (zV dc h6 h7) rfl;have k5:=fk 1 (wF dl sk dc h9) rfl;FV.fi func152 ([k1.o]++rF 6++[k2.o,bF,bF,bF,k3.o]++rF 5++[k4.o,bF,bF,bF,k5.o,.c (pB (!decide (aZ sk 0).Nodup)) [],bT,bT,bT,bT]) (A4 Bh (gt (FC Tp 203 [(.own 1)] [(1,(.row 3 ((aZ sk 0).length) ((aZ sk 0).map aA)))] 2 (pB (!decide (aZ sk 0).Nodup)) []) (fv (yD (aZ sk 0) A0 Bu)) (gc k5 (gc (aL h8) (Az (aL h5) (gc k4 (Ay (aL h5) (Az (aL h2) (gc k3 (Ay (aL h2) (gc k2 (gc (aQ h1) (Cf (aL h0) (gc k1 gn))))))))))))))
end
section
variable(h0:(within (sk.length:Int) 1 30)=true)(h1:(dc.length:Int)≤40)(h2:(within dl 0 10000)=true)(h3:sk.length≤1000)(h4:uni 2 sk)(h5:(sk.all (skB))=true)(h6:dc.length≤1000)(h7:uni 6 dc)(h8:(dc.all (dcB))=true)(h9:uni 2 sk∧sk.length≤1000)(A0:(aZ sk 0).length≤1000)(Bu:∀ x∈(aZ sk 0),-1000000≤x∧x≤1000000)(Bh:(!decide (aZ sk 0).Nodup)=false)(Cb:uni 6 dc∧dc.length≤1000)(De:(aZ dc 0).length≤1000)(G7:∀ x∈(aZ dc 0),-1000000≤x∧x≤1000000)
include h0 h1 h2 h3 h4 h5 h6 h7 h8 h9 A0 Bu Bh Cb De G7
theorem chk_p6(Fh:(!decide (aZ dc 0).Nodup)=true):FV Tp 152 [(.p (.agg [(aA dl),(fS sk),(fS dc)]))] base (pI 5) []:=have k1:=fk 1 (bO (sk.length:Int) 1 30) rfl;have k2:=fk 1 (bO dl 0 10000) rfl;have k3:=fk 1 (wE sk h3 h4) rfl;have k4:=fk 1 (zV dc h6 h7) rfl;have k5:=fk 1 (wF dl sk dc h9) rfl;have k6:=fk 2 (aNd dl sk dc Cb) rfl;FV.fi func152 ([k1.o]++rF 6++[k2.o,bF,bF,bF,k3.o]++rF 5++[k4.o,bF,bF,bF,k5.o,.c (pB (!decide (aZ sk 0).Nodup)) [],bF,bF,k6.o,bF,.c (pB (!decide (aZ dc 0).Nodup)) [],bF,bT]) (gc Fh (gc Bh (gt (FC Tp 203 [(.own 2)] [(2,(.row 3 ((aZ dc 0).length) ((aZ dc 0).map aA)))] 3 (pB (!decide (aZ dc 0).Nodup)) []) (fv (yD (aZ dc 0) De G7)) (gc Bh (gc k6 (Az Bh (gt (FC Tp 203 [(.own 1)] [(1,(.row 3 ((aZ sk 0).length) ((aZ sk 0).map aA)))] 2 (pB (!decide (aZ sk 0).Nodup)) []) (fv (yD (aZ sk 0) A0 Bu)) (gc k5 (gc (aL h8) (Az (aL h5) (gc k4 (Ay (aL h5) (Az (aL h2) (gc k3 (Ay (aL h2) (gc k2 (gc (aQ h1) (Cf (aL h0) (gc k1 gn)))))))))))))))))))
theorem chk_p7(Fh:(!decide (aZ dc 0).Nodup)=false)(Ip:∀ x∈dc,uni 2 sk∧sk.length≤1000)(Mr:(dc.all (inB sk))=false):FV Tp 152 [(.p (.agg [(aA dl),(fS sk),(fS dc)]))] base (pI 1) []:=have k1:=fk 1 (bO (sk.length:Int) 1 30) rfl;have k2:=fk 1 (bO dl 0 10000) rfl;have k3:=fk 1 (wE sk h3 h4) rfl;have k4:=fk 1 (zV dc h6 h7) rfl;have k5:=fk 1 (wF dl sk dc h9) rfl;have k6:=fk 2 (aNd dl sk dc Cb) rfl;have k7:=fk 2 (aYj dc dl sk dc h6 h7 Ip) rfl;FV.fi func152 ([k1.o]++rF 6++[k2.o,bF,bF,bF,k3.o]++rF 5++[k4.o,bF,bF,bF,k5.o,.c (pB (!decide (aZ sk 0).Nodup)) [],bF,bF,k6.o,bF,.c (pB (!decide (aZ dc 0).Nodup)) [],bF,bF,.g 1 ⟨[],[1,2],[0],[]⟩,.x (fS dc),k7.o,bT]) (gc (cA Mr) (gc k7 (gr (fS dc) (gc Fh (gc Bh (gt (FC Tp 203 [(.own 2)] [(2,(.row 3 ((aZ dc 0).length) ((aZ dc 0).map aA)))] 3 (pB (!decide (aZ dc 0).Nodup)) []) (fv (yD (aZ dc 0) De G7)) (gc Bh (gc k6 (Az Bh (gt (FC Tp 203 [(.own 1)] [(1,(.row 3 ((aZ sk 0).length) ((aZ sk 0).map aA)))] 2 (pB (!decide (aZ sk 0).Nodup)) []) (fv (yD (aZ sk 0) A0 Bu)) (gc k5 (gc (aL h8) (Az (aL h5) (gc k4 (Ay (aL h5) (Az (aL h2) (gc k3 (Ay (aL h2) (gc k2 (gc (aQ h1) (Cf (aL h0) (gc k1 gn))))))))))))))))))))))
theorem chk_p8(Fh:(!decide (aZ dc 0).Nodup)=false)(Ip:∀ x∈dc,uni 2 sk∧sk.length≤1000)(Mr:(dc.all (inB sk))=true)(R9:∀ x∈dc,inR (x.getD 0 0-1))(Sa:(dc.all (orB))=false):FV Tp 152 [(.p (.agg [(aA dl),(fS sk),(fS dc)]))] base (pI 4) []:=have k1:=fk 1 (bO (sk.length:Int) 1 30) rfl;have k2:=fk 1 (bO dl 0 10000) rfl;have k3:=fk 1 (wE sk h3 h4) rfl;have k4:=fk 1 (zV dc h6 h7) rfl;have k5:=fk 1 (wF dl sk dc h9) rfl;have k6:=fk 2 (aNd dl sk dc Cb) rfl;have k7:=fk 2 (aYj dc dl sk dc h6 h7 Ip) rfl;have k8:=fk 2 (bSa dc h6 h7 R9) rfl;FV.fi func152 ([k1.o]++rF 6++[k2.o,bF,bF,bF,k3.o]++rF 5++[k4.o,bF,bF,bF,k5.o,.c (pB (!decide (aZ sk 0).Nodup)) [],bF,bF,k6.o,bF,.c (pB (!decide (aZ dc 0).Nodup)) [],bF,bF,.g 1 ⟨[],[1,2],[0],[]⟩,.x (fS dc),k7.o,bF,.x (fS dc),k8.o,bT]) (gc (cA Sa) (gc k8 (gr (fS dc) (gc (aL Mr) (gc k7 (gr (fS dc) (gc Fh (gc Bh (gt (FC Tp 203 [(.own 2)] [(2,(.row 3 ((aZ dc 0).length) ((aZ dc 0).map aA)))] 3 (pB (!decide (aZ dc 0).Nodup)) []) (fv (yD (aZ dc 0) De G7)) (gc Bh (gc k6 (Az Bh (gt (FC Tp 203 [(.own 1)] [(1,(.row 3 ((aZ sk 0).length) ((aZ sk 0).map aA)))] 2 (pB (!decide (aZ sk 0).Nodup)) []) (fv (yD (aZ sk 0) A0 Bu)) (gc k5 (gc (aL h8) (Az (aL h5) (gc k4 (Ay (aL h5) (Az (aL h2) (gc k3 (Ay (aL h2) (gc k2 (gc (aQ h1) (Cf (aL h0) (gc k1 gn)))))))))))))))))))))))))
theorem chk_p9(Fh:(!decide (aZ dc 0).Nodup)=false)(Ip:∀ x∈dc,uni 2 sk∧sk.length≤1000)(Mr:(dc.all (inB sk))=true)(R9:∀ x∈dc,inR (x.getD 0 0-1))(Sa:(dc.all (orB))=true):FV Tp 152 [(.p (.agg [(aA dl),(fS sk),(fS dc)]))] base (pI 0) []:=have k1:=fk 1 (bO (sk.length:Int) 1 30) rfl;have k2:=fk 1 (bO dl 0 10000) rfl;have k3:=fk 1 (wE sk h3 h4) rfl;have k4:=fk 1 (zV dc h6 h7) rfl;have k5:=fk 1 (wF dl sk dc h9) rfl;have k6:=fk 2 (aNd dl sk dc Cb) rfl;have k7:=fk 2 (aYj dc dl sk dc h6 h7 Ip) rfl;have k8:=fk 2 (bSa dc h6 h7 R9) rfl;FV.fi func152 ([k1.o]++rF 6++[k2.o,bF,bF,bF,k3.o]++rF 5++[k4.o,bF,bF,bF,k5.o,.c (pB (!decide (aZ sk 0).Nodup)) [],bF,bF,k6.o,bF,.c (pB (!decide (aZ dc 0).Nodup)) [],bF,bF,.g 1 ⟨[],[1,2],[0],[]⟩,.x (fS dc),k7.o,bF,.x (fS dc),k8.o,bF]) (gc (aL Sa) (gc k8 (gr (fS dc) (gc (aL Mr) (gc k7 (gr (fS dc) (gc Fh (gc Bh (gt (FC Tp 203 [(.own 2)] [(2,(.row 3 ((aZ dc 0).length) ((aZ dc 0).map aA)))] 3 (pB (!decide (aZ dc 0).Nodup)) []) (fv (yD (aZ dc 0) De G7)) (gc Bh (gc k6 (Az Bh (gt (FC Tp 203 [(.own 1)] [(1,(.row 3 ((aZ sk 0).length) ((aZ sk 0).map aA)))] 2 (pB (!decide (aZ sk 0).Nodup)) []) (fv (yD (aZ sk 0) A0 Bu)) (gc k5 (gc (aL h8) (Az (aL h5) (gc k4 (Ay (aL h5) (Az (aL h2) (gc k3 (Ay (aL h2) (gc k2 (gc (aQ h1) (Cf (aL h0) (gc k1 gn)))))))))))))))))))))))))
end
end
section

def bRz(dl:Int)(sk dc:Lqq):Int :=
 if within (sk.length:Int) 1 30=false∨(40:Int)<(dc.length:Int) then 2
 else if within dl 0 10000=false∨sk.all skB=false∨dc.all dcB=false then 3
 else if ¬ (aZ sk 0).Nodup∨¬ (aZ dc 0).Nodup then 5
 else if dc.all (inB sk)=false then 1
 else if dc.all orB=false then 4 else 0

structure cK (dl:Int) (sk dc:Lqq):Prop where
 us:uni 2 sk
 ud:uni 6 dc
 len:1≤sk.length∧sk.length≤30
 len2:dc.length≤40
 hdl:0≤dl∧dl≤10000
 hsk:∀ x∈sk,skB x=true
 hdc:∀ x∈dc,dcB x=true
 ns:(aZ sk 0).Nodup
 nd:(aZ dc 0).Nodup
 inb:∀ x∈dc,inB sk x=true
 ord:∀ x∈dc,orB x=true

theorem within_iff{n lo hi:Int}:within n lo hi=true↔lo≤n∧n≤hi:=by simp [within]
theorem aNa(f:Lqq)(j:Nat):(aZ f j).length=f.length:=by simp [aZ]
theorem bDx{f:Lqq}{j:Nat}{n:Int}(h:n∈aZ f j):∃ x∈f,x.getD j 0=n:=by simpa [aZ] using h
theorem aNb{x:List Int}:skB x=true↔(1≤x.getD 0 0∧x.getD 0 0≤999) ∧ -1≤x.getD 1 0∧x.getD 1 0≤360000:=by
 unfold skB;rw [Cc,within_iff,within_iff]
theorem lM{x:List Int}:dcB x=true↔(1≤x.getD 0 0∧x.getD 0 0≤9999)∧(0≤x.getD 1 0∧x.getD 1 0≤9)∧(0≤x.getD 2 0∧x.getD 2 0≤10000)∧0≤x.getD 4 0∧x.getD 4 0≤nH (x.getD 1 0):=by
 unfold dcB;rw [Cc,Cc,Cc,within_iff,within_iff,within_iff,within_iff]

theorem cFk(dl:Int)(sk dc:Lqq)(us:uni 2 sk)(ud:uni 6 dc){base:Nat}:FV Tp 152 [.p (.agg (kF dl sk dc))] base (.p (aA (bRz dl sk dc))) []:=by
 unfold bRz;cases h1:within (sk.length:Int) 1 30 with
 | false=>rw [if_pos (.inl rfl)];exact chk_p0 h1
 | true =>
 have l1:=(within_iff.1 h1)
 by_cases h2:(40:Int)<(dc.length:Int)
 ·rw [if_pos (.inr h2)];exact chk_p1 h1 h2
 rw [if_neg (by simp [h2])]
 have F6:(dc.length:Int)≤40:=by omega
 cases h3:within dl 0 10000 with
 | false=>rw [if_pos (.inl rfl)];exact chk_p2 h1 F6 h3
 | true =>
 have hs:sk.length≤1000:=by omega
 have hd:dc.length≤1000:=by omega
 cases h4:sk.all skB with
 | false=>rw [if_pos (.inr (.inl rfl))];exact chk_p3 h1 F6 h3 hs us h4
 | true =>
 cases h5:dc.all dcB with
 | false=>rw [if_pos (.inr (.inr rfl))];exact chk_p4 h1 F6 h3 hs us h4 hd ud h5
 | true =>
 rw [if_neg (by simp)]
 have b1:∀ x∈aZ sk 0,-1000000≤x∧x≤1000000:=fun n hn=>by
  obtain ⟨x,hx,rfl⟩:=bDx hn;have:=aNb.1 (gC.1 h4 x hx);omega
 have b2:∀ x∈aZ dc 0,-1000000≤x∧x≤1000000:=fun n hn=>by
  obtain ⟨x,hx,rfl⟩:=bDx hn;have:=lM.1 (gC.1 h5 x hx);omega
 have b3:∀ x∈dc,inR (x.getD 0 0-1):=fun x hx=>by
  have:=lM.1 (gC.1 h5 x hx);unfold inR;omega
 have c1:(aZ sk 0).length≤1000:=by rw [aNa];exact hs
 have c2:(aZ dc 0).length≤1000:=by rw [aNa];exact hd
 by_cases h6:(aZ sk 0).Nodup
 ·by_cases h7:(aZ dc 0).Nodup
  ·rw [if_neg (by simp [h6,h7])]
   cases h8:dc.all (inB sk) with
   | false=>rw [if_pos rfl];exact chk_p7 h1 F6 h3 hs us h4 hd ud h5 ⟨us,hs⟩ c1 b1 (by simp [h6]) ⟨ud,hd⟩ c2 b2 (by simp [h7]) (fun _ _=>⟨us,hs⟩) h8
   | true =>
    rw [if_neg (by simp)]
    cases h9:dc.all orB with
    | false=>rw [if_pos rfl];exact chk_p8 h1 F6 h3 hs us h4 hd ud h5 ⟨us,hs⟩ c1 b1 (by simp [h6]) ⟨ud,hd⟩ c2 b2 (by simp [h7]) (fun _ _=>⟨us,hs⟩) h8 b3 h9
    | true=>rw [if_neg (by simp)];exact chk_p9 h1 F6 h3 hs us h4 hd ud h5 ⟨us,hs⟩ c1 b1 (by simp [h6]) ⟨ud,hd⟩ c2 b2 (by simp [h7]) (fun _ _=>⟨us,hs⟩) h8 b3 h9
  ·rw [if_pos (.inr h7)];exact chk_p6 h1 F6 h3 hs us h4 hd ud h5 ⟨us,hs⟩ c1 b1 (by simp [h6]) ⟨ud,hd⟩ c2 b2 (by simp [h7])
 ·rw [if_pos (.inl h6)];exact chk_p5 h1 F6 h3 hs us h4 hd ud h5 ⟨us,hs⟩ c1 b1 (by simp [h6])

theorem bXz{dl:Int}{sk dc:Lqq}(us:uni 2 sk)(ud:uni 6 dc):bRz dl sk dc=0↔cK dl sk dc:=by
 unfold bRz;constructor
 ·intro h
  split at h
  ·simp at h
  rename_i h1
  split at h
  ·simp at h
  rename_i h2
  split at h
  ·simp at h
  rename_i h3
  split at h
  ·simp at h
  rename_i h4
  split at h
  ·simp at h
  rename_i h5;simp only [not_or,Bool.not_eq_false,Int.not_lt,Classical.not_not] at h1 h2 h3 h4 h5
  have:=within_iff.1 h1.1;exact ⟨us,ud,by omega,by omega,within_iff.1 h2.1,fun x hx=>gC.1 h2.2.1 x hx,fun x hx=>gC.1 h2.2.2 x hx,h3.1,h3.2,fun x hx=>gC.1 h4 x hx,fun x hx=>gC.1 h5 x hx⟩
 ·intro h
  have e1:within (sk.length:Int) 1 30=true:=within_iff.2 (by have:=h.len;omega)
  have e2:within dl 0 10000=true:=within_iff.2 h.hdl;have e3:sk.all skB=true:=gC.2 h.hsk;have e4:dc.all dcB=true:=gC.2 h.hdc;have e5:dc.all (inB sk)=true:=gC.2 h.inb;have e6:dc.all orB=true:=gC.2 h.ord;have:=h.len2;rw [if_neg (by rw [e1];simp;omega),if_neg (by rw [e2,e3,e4];simp),if_neg (by simp [h.ns,h.nd]),if_neg (by rw [e5];simp),if_neg (by rw [e6];simp)]
end
end KV
end Go.Proofs
section
namespace Go.Proofs
open Go.RowKit Go.Lib Go.Sort
namespace KV
open Tryz

theorem aXu{P:Program}{C:Cx}{w w':World}{ty n b:Nat}{cs Bl:List PV}{arr E9:Array Value}(hM:aO P C [some (.row ty n cs)] w)(hι:C.ι 0=some b)(hb:w.heap[b]? = some (.cells arr ty (0,0)))
  (hos:w'.os=w.os) (htp:w'.tape=w.tape) (hou:w'.output=w.output) (hsz:w.heap.size≤w'.heap.size) (hot:∀ b',b'<w.heap.size→b'≠b→w'.heap[b']? = w.heap[b']?)
  (Ar:w'.heap[b]? = some (.cells E9 ty (0,0))) (hsa:E9.size=arr.size) (hl:Bl.length=cs.length) (hr:∀ j (h:j<Bl.length),bQ C.F w' Bl[j] (E9.getD j undef)) (ho:∀ j,j<Bl.length→(E9.getD j undef).oneCell'=true) :
  Fr C [some (.row ty n cs)] w C [some (.row ty n Bl)] w'∧aO P C [some (.row ty n Bl)] w':=by
 have J5:∀ (id:Nat) (o:AO),([some (.row ty n cs)]:Mem)[id]? = some (some o)→id=0∧o = .row ty n cs:=fun id o h=>by
  cases id with
  | zero=>simp at h;exact ⟨rfl,h.symm⟩
  | succ i=>simp at h
 have Dn:∀ (id:Nat) (o:AO),([some (.row ty n Bl)]:Mem)[id]? = some (some o)→id=0∧o = .row ty n Bl:=fun id o h=>by
  cases id with
  | zero=>simp at h;exact ⟨rfl,h.symm⟩
  | succ i=>simp at h
 refine ⟨⟨hos,htp,hou,hsz,fun b' h1 h2=>hot b' h1 fun he => ?_,fun id o hm => ?_,fun id o hm Cr n' E2 hx => ?_,fun id o hm o' hx hl => ?_,fun id o b' hm hl hbb => ?_,fun _ h=>h,fun _ h => .inl h⟩,
  ⟨fun id Cr n' E2 hm => ?_,fun id Cr E2 hm => ?_,fun id es cl hm => ?_,fun id F7 o o' b' h1 _ h2 _ _ _ => ?_,fun id o b' hm hl hbb => ?_,fun b' hf=>fU (hM.Fs b' hf) hsz,fun id o b' hm hl hbb => ?_⟩⟩
 ·subst he;exact h2 0 _ rfl rfl hι
 ·obtain ⟨rfl,rfl⟩:=J5 id o hm
  exact ⟨⟨_,rfl⟩,rfl,rfl⟩
 ·obtain ⟨rfl,rfl⟩:=J5 id o hm
  obtain ⟨_,he⟩:=Dn _ _ hx;cases he;exact ⟨cs,rfl⟩
 ·obtain ⟨rfl,rfl⟩:=J5 id o hm
  rfl
 ·obtain ⟨rfl,rfl⟩:=Dn id o hm
  exact .inr ⟨0,_,rfl,rfl,hbb⟩
 ·obtain ⟨rfl,he⟩:=Dn id _ hm
  cases he
  rcases hM.row 0 _ _ _ rfl with ⟨hn,_⟩ | ⟨b',Vl,i,q1,q2,q3,q4,q5,q6,q7,q8⟩
  ·rw [hι] at hn;cases hn
  ·rw [hι] at q1;cases q1
   rw [hb] at q2;cases q2
   exact .inr ⟨b,E9,i,hι,Ar,q3,by rw [hsa,q4],by rw [hl,q5],q6,q7,hr,ho⟩
 ·obtain ⟨_,he⟩:=Dn id _ hm;cases he
 ·obtain ⟨_,he⟩:=Dn id _ hm;cases he
 ·obtain ⟨rfl,_⟩:=Dn id _ h1
  obtain ⟨rfl,_⟩:=Dn F7 _ h2;rfl
 ·obtain ⟨rfl,_⟩:=Dn id _ hm
  exact hM.nF 0 _ b' rfl rfl hbb
 ·obtain ⟨rfl,_⟩:=Dn id _ hm
  exact fU (hM.lt 0 _ b' rfl rfl hbb) hsz

def nN(k:Nat)(x:List Int):List Value:=(List.range k).map fun i => .int .i64 (x.getD i 0)
theorem aFc(k:Nat)(x:List Int):(nN k x).length=k:=by simp [nN]
theorem aFd(k:Nat)(x:List Int):∀ v∈nN k x,v.oneCell'=true:=fun v hv=>by
 obtain ⟨i,_,rfl⟩:=Bq.1 hv;rfl
def cfL(x y:List Int):Int:=compareInt (x.getD 0 0) (y.getD 0 0)
theorem ltL(x y:List Int):ltOf cfL x y=decide (x.getD 0 0<y.getD 0 0):=by
 unfold ltOf cfL compareInt;generalize x.getD 0 0=a;generalize y.getD 0 0=b
 by_cases h1:a<b
 ·simp [h1]
 ·by_cases h2:b<a <;> simp [h1,h2]
theorem cMg:SWO (ltOf cfL) where
 irrefl x:=by rw [ltL];simp
 trans x y z h1 h2:=by rw [ltL] at *;simp only [decide_eq_true_eq] at *;omega
 ntrans x y z h1 h2:=by rw [ltL] at *;simp only [decide_eq_false_iff_not] at *;omega
def aC(l:Lqq):Lqq:=l.mergeSort fun a b=>decide (a.getD 0 0≤b.getD 0 0)
theorem dO(l:Lqq):(aC l).Perm l:=List.mergeSort_perm _ _
theorem qZ(l:Lqq):(aC l).Pairwise fun a b=>a.getD 0 0≤b.getD 0 0:=by
 have:=List.pairwise_mergeSort (le:=fun a b:List Int=>decide (a.getD 0 0≤b.getD 0 0)) (fun a b c h1 h2=>by simp only [decide_eq_true_eq] at *;omega) (fun a b=>by simp only [aMq,decide_eq_true_eq];omega) l
 exact this.imp fun h=>of_decide_eq_true h
theorem bDw{l:Lqq}(hn:(aZ l 0).Nodup){a b:List Int}(ha:a∈l)(hb:b∈l)(h:a.getD 0 0=b.getD 0 0):a=b:=by
 induction l with
 | nil=>cases ha
 | cons x l ih =>
  unfold aZ at hn ih
  rw [iB,List.nodup_cons] at hn
  rcases gK.1 ha with rfl | Lz <;> rcases gK.1 hb with rfl | Ar
  ·rfl
  ·exact absurd (Bq.2 ⟨b,Ar,h.symm⟩) hn.1
  ·exact absurd (Bq.2 ⟨a,Lz,h⟩) hn.1
  ·exact ih hn.2 Lz Ar
theorem aXv{l l':Lqq}(hn:(aZ l 0).Nodup)(hp:l'.Perm l)(hs:l'.Pairwise fun a b=>a.getD 0 0≤b.getD 0 0):l'=aC l :=
 List.Perm.eq_of_pairwise (le:=fun a b=>a.getD 0 0≤b.getD 0 0) (fun a b ha hb h1 h2=>bDw hn (hp.mem_iff.1 ha) ((dO l).mem_iff.1 hb) (by omega)) hs (qZ l) (hp.trans (dO l).symm)
theorem bRy{k:Nat}{l l':Lqq}(hp:l'.Perm l)(hu:uni k l):uni k l':=fun x hx=>hu x (hp.mem_iff.1 hx)
theorem mU{k:Nat}{l:Lqq}(hu:uni k l):uni k (aC l):=bRy (dO l) hu
theorem eI(l:Lqq):(aC l).length=l.length:=(dO l).length_eq
end KV
end Go.Proofs
end
section
namespace Go.Proofs
open Go.Shelf
def Tryz.sortSk_ren:Go.Shelf.Ren:=⟨fun | 6=>153 | 15=>195 | 14=>207 | 28=>231 | 29=>232 | 20=>239 | 21=>240 | 22=>241 | 23=>242 | 24=>243 | 25=>244 | 26=>245 | 27=>246 | 46=>278 | 47=>271 | 48=>272 | 49=>279 | 50=>280 | 57=>292 | n=>n,fun | 22=>23 | 24=>80 | 25=>225 | 3=>3 | 39=>266 | 0=>0 | 53=>94 | 55=>288 | 4=>4 | 46=>281 | 45=>280 | 50=>179 | 5=>5 | 9=>9 | 66=>307 | 70=>311 | 76=>322 | 77=>236 | n=>n,fun | n=>n⟩
theorem Tryz.sortSk:Go.Proofs.SlLaysF0.n6 Tryz.prog Tryz.sortSk_ren:={
 mixed:=by kernel_rfl
 f6:=⟨Tryz.f153.name,by decide,func153.trans (congrArg some (by kernel_rfl))⟩
 f14:=⟨Tryz.f207.name,by decide,func207.trans (congrArg some (by kernel_rfl))⟩
 f15:=func195.trans (congrArg some (by kernel_rfl))
 f20:=⟨Tryz.f239.name,by decide,func239.trans (congrArg some (by kernel_rfl))⟩
 f21:=⟨Tryz.f240.name,by decide,func240.trans (congrArg some (by kernel_rfl))⟩
 f22:=⟨Tryz.f241.name,by decide,func241.trans (congrArg some (by kernel_rfl))⟩
 f23:=⟨Tryz.f242.name,by decide,func242.trans (congrArg some (by kernel_rfl))⟩
 f24:=⟨Tryz.f243.name,by decide,func243.trans (congrArg some (by kernel_rfl))⟩
 f25:=⟨Tryz.f244.name,by decide,func244.trans (congrArg some (by kernel_rfl))⟩
 f26:=⟨Tryz.f245.name,by decide,func245.trans (congrArg some (by kernel_rfl))⟩
 f27:=⟨Tryz.f246.name,by decide,func246.trans (congrArg some (by kernel_rfl))⟩
 f28:=func231.trans (congrArg some (by kernel_rfl))
 f29:=func232.trans (congrArg some (by kernel_rfl))
 f46:=⟨Tryz.f278.name,by decide,func278.trans (congrArg some (by kernel_rfl))⟩
 f47:=func271.trans (congrArg some (by kernel_rfl))
 f48:=func272.trans (congrArg some (by kernel_rfl))
 f49:=⟨Tryz.f279.name,by decide,func279.trans (congrArg some (by kernel_rfl))⟩
 f50:=⟨Tryz.f280.name,by decide,func280.trans (congrArg some (by kernel_rfl))⟩
 f57:=⟨Tryz.f292.name,by decide,func292.trans (congrArg some (by kernel_rfl))⟩
 t0:=Tryz.underlying0
 a0:=Tryz.isAgg0
 z0:=Tryz.sizeOf0
 v0:=Tryz.zeroValue0
 t3:=Tryz.underlying3
 a3:=Tryz.isAgg3
 z3:=Tryz.sizeOf3
 v3:=Tryz.zeroValue3
 t4:=Tryz.underlying4
 a4:=Tryz.isAgg4
 z4:=Tryz.sizeOf4
 v4:=Tryz.zeroValue4
 t5:=Tryz.underlying5
 a5:=Tryz.isAgg5
 z5:=Tryz.sizeOf5
 v5:=Tryz.zeroValue5
 t9:=Tryz.underlying9
 a9:=Tryz.isAgg9
 z9:=Tryz.sizeOf9
 v9:=Tryz.zeroValue9
 t22:=Tryz.underlying23
 a22:=Tryz.isAgg23
 z22:=Tryz.sizeOf23
 v22:=Tryz.zeroValue23
 t25:=Tryz.underlying225
 a25:=Tryz.isAgg225
 z25:=Tryz.sizeOf225
 v25:=Tryz.zeroValue225
 t39:=Tryz.underlying266
 a39:=Tryz.isAgg266
 z39:=Tryz.sizeOf266
 v39:=Tryz.zeroValue266
 t45:=Tryz.underlying280
 a45:=Tryz.isAgg280
 z45:=Tryz.sizeOf280
 v45:=Tryz.zeroValue280
 t46:=Tryz.underlying281
 a46:=Tryz.isAgg281
 z46:=Tryz.sizeOf281
 v46:=Tryz.zeroValue281
 t50:=Tryz.underlying179
 a50:=Tryz.isAgg179
 z50:=Tryz.sizeOf179
 v50:=Tryz.zeroValue179
 t53:=Tryz.underlying94
 a53:=Tryz.isAgg94
 z53:=Tryz.sizeOf94
 v53:=Tryz.zeroValue94
 t55:=Tryz.underlying288
 a55:=Tryz.isAgg288
 z55:=Tryz.sizeOf288
 v55:=Tryz.zeroValue288
 t66:=Tryz.underlying307
 a66:=Tryz.isAgg307
 z66:=Tryz.sizeOf307
 v66:=Tryz.zeroValue307
 t70:=Tryz.underlying311
 a70:=Tryz.isAgg311
 z70:=Tryz.sizeOf311
 v70:=Tryz.zeroValue311
 t76:=Tryz.underlying322
 a76:=Tryz.isAgg322
 z76:=Tryz.sizeOf322
 v76:=Tryz.zeroValue322
 t77:=Tryz.underlying236
 a77:=Tryz.isAgg236
 z77:=Tryz.sizeOf236
 v77:=Tryz.zeroValue236 }
def Tryz.sortDc_ren:Go.Shelf.Ren:=⟨fun | 6=>155 | 15=>195 | 14=>208 | 28=>231 | 29=>232 | 20=>247 | 21=>248 | 22=>249 | 23=>250 | 24=>251 | 25=>252 | 26=>253 | 27=>254 | 46=>281 | 47=>271 | 48=>272 | 49=>282 | 50=>283 | 57=>293 | n=>n,fun | 22=>24 | 24=>84 | 25=>227 | 3=>3 | 39=>266 | 0=>0 | 53=>94 | 55=>288 | 4=>4 | 46=>281 | 45=>280 | 50=>179 | 5=>5 | 9=>9 | 66=>307 | 70=>311 | 76=>322 | 77=>236 | n=>n,fun | n=>n⟩
theorem Tryz.sortDc:Go.Proofs.SlLaysF0.n6 Tryz.prog Tryz.sortDc_ren:={
 mixed:=by kernel_rfl
 f6:=⟨Tryz.f155.name,by decide,func155.trans (congrArg some (by kernel_rfl))⟩
 f14:=⟨Tryz.f208.name,by decide,func208.trans (congrArg some (by kernel_rfl))⟩
 f15:=func195.trans (congrArg some (by kernel_rfl))
 f20:=⟨Tryz.f247.name,by decide,func247.trans (congrArg some (by kernel_rfl))⟩
 f21:=⟨Tryz.f248.name,by decide,func248.trans (congrArg some (by kernel_rfl))⟩
 f22:=⟨Tryz.f249.name,by decide,func249.trans (congrArg some (by kernel_rfl))⟩
 f23:=⟨Tryz.f250.name,by decide,func250.trans (congrArg some (by kernel_rfl))⟩
 f24:=⟨Tryz.f251.name,by decide,func251.trans (congrArg some (by kernel_rfl))⟩
 f25:=⟨Tryz.f252.name,by decide,func252.trans (congrArg some (by kernel_rfl))⟩
 f26:=⟨Tryz.f253.name,by decide,func253.trans (congrArg some (by kernel_rfl))⟩
 f27:=⟨Tryz.f254.name,by decide,func254.trans (congrArg some (by kernel_rfl))⟩
 f28:=func231.trans (congrArg some (by kernel_rfl))
 f29:=func232.trans (congrArg some (by kernel_rfl))
 f46:=⟨Tryz.f281.name,by decide,func281.trans (congrArg some (by kernel_rfl))⟩
 f47:=func271.trans (congrArg some (by kernel_rfl))
 f48:=func272.trans (congrArg some (by kernel_rfl))
 f49:=⟨Tryz.f282.name,by decide,func282.trans (congrArg some (by kernel_rfl))⟩
 f50:=⟨Tryz.f283.name,by decide,func283.trans (congrArg some (by kernel_rfl))⟩
 f57:=⟨Tryz.f293.name,by decide,func293.trans (congrArg some (by kernel_rfl))⟩
 t0:=Tryz.underlying0
 a0:=Tryz.isAgg0
 z0:=Tryz.sizeOf0
 v0:=Tryz.zeroValue0
 t3:=Tryz.underlying3
 a3:=Tryz.isAgg3
 z3:=Tryz.sizeOf3
 v3:=Tryz.zeroValue3
 t4:=Tryz.underlying4
 a4:=Tryz.isAgg4
 z4:=Tryz.sizeOf4
 v4:=Tryz.zeroValue4
 t5:=Tryz.underlying5
 a5:=Tryz.isAgg5
 z5:=Tryz.sizeOf5
 v5:=Tryz.zeroValue5
 t9:=Tryz.underlying9
 a9:=Tryz.isAgg9
 z9:=Tryz.sizeOf9
 v9:=Tryz.zeroValue9
 t22:=Tryz.underlying24
 a22:=Tryz.isAgg24
 z22:=Tryz.sizeOf24
 v22:=Tryz.zeroValue24
 t25:=Tryz.underlying227
 a25:=Tryz.isAgg227
 z25:=Tryz.sizeOf227
 v25:=Tryz.zeroValue227
 t39:=Tryz.underlying266
 a39:=Tryz.isAgg266
 z39:=Tryz.sizeOf266
 v39:=Tryz.zeroValue266
 t45:=Tryz.underlying280
 a45:=Tryz.isAgg280
 z45:=Tryz.sizeOf280
 v45:=Tryz.zeroValue280
 t46:=Tryz.underlying281
 a46:=Tryz.isAgg281
 z46:=Tryz.sizeOf281
 v46:=Tryz.zeroValue281
 t50:=Tryz.underlying179
 a50:=Tryz.isAgg179
 z50:=Tryz.sizeOf179
 v50:=Tryz.zeroValue179
 t53:=Tryz.underlying94
 a53:=Tryz.isAgg94
 z53:=Tryz.sizeOf94
 v53:=Tryz.zeroValue94
 t55:=Tryz.underlying288
 a55:=Tryz.isAgg288
 z55:=Tryz.sizeOf288
 v55:=Tryz.zeroValue288
 t66:=Tryz.underlying307
 a66:=Tryz.isAgg307
 z66:=Tryz.sizeOf307
 v66:=Tryz.zeroValue307
 t70:=Tryz.underlying311
 a70:=Tryz.isAgg311
 z70:=Tryz.sizeOf311
 v70:=Tryz.zeroValue311
 t76:=Tryz.underlying322
 a76:=Tryz.isAgg322
 z76:=Tryz.sizeOf322
 v76:=Tryz.zeroValue322
 t77:=Tryz.underlying236
 a77:=Tryz.isAgg236
 z77:=Tryz.sizeOf236
 v77:=Tryz.zeroValue236 }
def Tryz.cmpInt_ren:Go.Shelf.Ren:=⟨fun | 5=>62 | 7=>124 | n=>n,fun | 22=>3 | 3=>3 | 4=>4 | n=>n,fun | n=>n⟩
theorem Tryz.cmpInt:Go.Proofs.SlLaysC2.n5 Tryz.prog Tryz.cmpInt_ren:={
 mixed:=by kernel_rfl
 f5:=⟨Tryz.f62.name,by decide,func62.trans (congrArg some (by kernel_rfl))⟩
 f7:=⟨Tryz.f124.name,by decide,func124.trans (congrArg some (by kernel_rfl))⟩
 t3:=Tryz.underlying3
 a3:=Tryz.isAgg3
 z3:=Tryz.sizeOf3
 v3:=Tryz.zeroValue3
 t4:=Tryz.underlying4
 a4:=Tryz.isAgg4
 z4:=Tryz.sizeOf4
 v4:=Tryz.zeroValue4
 t22:=Tryz.underlying3
 a22:=Tryz.isAgg3
 z22:=Tryz.sizeOf3
 v22:=Tryz.zeroValue3 }
end Go.Proofs
end
section
namespace Go.Proofs
open Go.RowKit Go.Lib Go.Sort Go.Shelf
namespace KV
open Tryz

set_option maxHeartbeats 1000000 in
theorem cMe(a b c d:Int)(W:World):Calls Tp 154 #[.agg #[.int .i64 a,.int .i64 b],.agg #[.int .i64 c,.int .i64 d]] W fun e w'=>e = .returned (.int .i64 (Lib.compareInt a c))∧∃ q R8,w'=grow (W.drewN q) R8:=by
 have hcon:=fun W'=>AnyG.cmp_Compare_int Tryz.cmpInt a c W'
 change ∀ W',Calls Tp 62 _ _ _ at hcon
 generalize Lib.compareInt a c=r at hcon ⊢
 go_enter func154,Tryz.ntmps154
 go_wp2_with (go_at_call 62;refine (hcon _).mono ?_;rintro e w' ⟨rfl,rfl⟩)
 go_ret
 exact ⟨rfl,0,_,by rw [alloc_eq_grow,alloc_eq_grow,grow_grow];rfl⟩
set_option maxHeartbeats 1000000 in
theorem cMf(a b c d e f a' b' c' d' e' f':Int)(W:World):Calls Tp 156 #[.agg #[.int .i64 a,.int .i64 b,.int .i64 c,.int .i64 d,.int .i64 e,.int .i64 f],.agg #[.int .i64 a',.int .i64 b',.int .i64 c',.int .i64 d',.int .i64 e',.int .i64 f']] W fun z w'=>z = .returned (.int .i64 (Lib.compareInt a a'))∧∃ q R8,w'=grow (W.drewN q) R8:=by
 have hcon:=fun W'=>AnyG.cmp_Compare_int Tryz.cmpInt a a' W'
 change ∀ W',Calls Tp 62 _ _ _ at hcon
 generalize Lib.compareInt a a'=r at hcon ⊢
 go_enter func156,Tryz.ntmps156
 go_wp2_with (go_at_call 62;refine (hcon _).mono ?_;rintro e w' ⟨rfl,rfl⟩)
 go_ret
 exact ⟨rfl,0,_,by rw [alloc_eq_grow,alloc_eq_grow,grow_grow];rfl⟩

theorem sR{C:Cx}{M:Mem}{w:World}{x:AV}{us:List Value}(h:cN C M w [x] us):∃ u,us=[u]∧Rep C M w x u:=by
 cases h with | cons _ u _ _ h hr=>cases hr;exact ⟨u,rfl,h⟩
theorem yC{C:Cx}{M:Mem}{w:World}{x y:AV}{us:List Value}(h:cN C M w [x,y] us):∃ u v,us=[u,v]∧Rep C M w x u∧Rep C M w y v:=by
 cases h with | cons _ u _ _ h hr=>obtain ⟨v,rfl,h2⟩:=sR hr;exact ⟨u,v,rfl,h,h2⟩
theorem bRx{C:Cx}{M:Mem}{w:World}{f:Nat}{u:Value}(h:Rep C M w (.fn f [] []) u):u = .func (.func f) #[] #[]:=by
 cases h with
 | fn _ _ _ us vs h1 h2 h3 h4 =>
  have e1:us = #[]:=Array.eq_empty_of_size_eq_zero h1;have e2:vs = #[]:=Array.eq_empty_of_size_eq_zero h2;subst e1;subst e2;rfl

theorem aKg{k:Nat}{l:Lqq}(hu:uni k l){j:Nat}(hj:j<(l.flatten.map aA).length):(l.flatten.map aA)[j] = .v ((nN k (l.toArray)[j / k]!)[j % k]!):=by
 have hL:(l.flatten).length=l.length*k:=qV hu;have Ce:j<l.length*k:=by rw [B9,hL] at hj;exact hj
 have hk:0<k:=by
  rcases Nat.eq_zero_or_pos k with h | h
  ·subst h;simp at Ce
  ·exact h
 have hq:j / k<l.length:=Nat.div_lt_of_lt_mul (by rw [bRf];exact Ce)
 have hm:j % k<k:=bHs _ hk;have hx:l[j / k]? = some l[j / k]:=Av hq;have hxl:l[j / k].length=k:=hu _ (fG hq);have hf:l[j / k][j % k]? = some l[j / k][j % k]:=Av (by omega)
 have:=iX hu hx hf;have e:j / k*k+j % k=j:=by rw [bRf];exact Nat.div_add_mod j k
 rw [e,Av hj] at this
 rw [Option.some.inj this];have e2:(l.toArray)[j / k]! = l[j / k]:=by simp [hq]
 rw [e2];unfold nN;simp only [List.getElem!_eq_getElem?_getD,jU,bRc hm,Option.map_some,Option.getD_some,Bw,hf]

theorem aRu{f g ty k:Nat}(hsz:∃ i,Tryz.prog.info? ty=some i∧i.size=k)(hk:0<k)
  (hcall:∀ (blk cap:Nat) (d:Array (List Int)) (w:World),HoldsK (nN k) k w blk 0 d→blk<w.heap.size→d.size<4611686018427387904→Calls Tp f #[.slice (some ⟨blk,0,none⟩) d.size cap,.func (.func g) #[] #[]] w fun e w' =>
   e = .returned (.tuple #[])∧∃ d' n os,PermIn 0 d.size d d'∧SortedIn (ltOf cfL) 0 d.size d'∧w'=sortWorldK (nN k) k w blk 0 n d' os)
  (hnil:∀ (p:Option Addr) (cap:Nat) (fv:Value) (w:World),Calls Tp f #[.slice p 0 cap,fv] w fun e w'=>e = .returned (.tuple #[])∧w'=w)
  (l:Lqq) (hu:uni k l) (hn:(aZ l 0).Nodup) (hl:l.length≤1000) :
  FMM Tp f [.own 0,.fn g [] []] [some (.row ty l.length (l.flatten.map aA))] (.tup []) [some (.row ty (aC l).length ((aC l).flatten.map aA))]:=fun C w us hus hM n=>by
 obtain ⟨u,v,rfl,O5,hv⟩:=yC hus;obtain rfl:=bRx hv;rw [eI];have hown:(C.ι 0=none∧u = .slice none 0 0∧l.length=0)∨∃ b,C.ι 0=some b∧u = .slice (some ⟨b,0,none⟩) l.length (C.κ 0):=by
  cases O5 with
  | own _ _ h0 ha hr =>
   rcases hr _ _ _ rfl with ⟨q1,q2,q3⟩ | ⟨b,q1,q2⟩
   ·exact .inl ⟨q2,q1,q3⟩
   ·exact .inr ⟨b,q2,q1⟩
 rcases hown with ⟨hι,rfl,h0⟩ | ⟨b,hι,rfl⟩
 ·obtain rfl:l=[]:=uS h0
  refine (callsIn_wide.2 (hnil none 0 _ w)).mono ?_;rintro e w' ⟨rfl,rfl⟩;have e0:aC []=[]:=by simp [aC]
  rw [e0];exact ⟨_,rfl,C,Fr.refl _ _ _,hM,.tup [] #[] rfl (fun i h=>by simp at h)⟩
 ·rcases hM.row 0 _ _ _ rfl with ⟨F3,_⟩ | ⟨b',arr,i,q1,q2,q3,q4,q5,q6,q7,q8,q9⟩
  ·rw [hι] at F3;cases F3
  ·rw [hι] at q1;cases q1
   obtain ⟨i',Bi,B3⟩:=hsz;rw [q3] at Bi;cases Bi
   have hcell:∀ j (hj:j<(l.flatten.map aA).length),arr.getD j undef=(nN k (l.toArray)[j / k]!)[j % k]! := fun j hj=>by
    have:=q8 j hj;rw [aKg hu hj] at this
    exact cEl this
   have hlen:(l.flatten.map aA).length=l.length*k:=by rw [B9,qV hu]
   have hle:l.length*k≤arr.size:=by rw [q4,B3];exact Nat.mul_le_mul_right k q6
   have hH:HoldsK (nN k) k w b 0 l.toArray:=by
    unfold HoldsK Holds;intro j hj;rw [size_flatK] at hj
    have Ec:j<l.length*k:=by simpa using hj
    rw [get_flatK _ _ _ _ hj,← hcell j (by rw [hlen];exact Ec)]
    have hja:j<arr.size:=by omega
    rw [gS];refine ⟨?_,?_⟩
    ·unfold World.cell?
     simp only [q2];rw [Bn,qQ hja];simp
    ·unfold World.frozen?
     simp [q2]
   have hb:b<w.heap.size:=lt_of_block q2;have hc:=hcall b (C.κ 0) l.toArray w hH hb (by simp;omega)
   rw [List.size_toArray] at hc
   refine (callsIn_wide.2 hc).mono ?_;rintro e w' ⟨rfl,d',m,os,hp,hs,rfl⟩;have hd:d'.size=l.length:=by have:=hp.1;simpa using this
   have hperm:d'.toList.Perm l:=by
    have:=hp.2.2;have e1:d'.extract 0 l.length=d':=by rw [← hd];simp
    have e2:l.toArray.extract 0 l.length=l.toArray:=by simp
    rw [e1,e2] at this
    simpa using this
   have hsorted:d'.toList.Pairwise fun a b=>a.getD 0 0≤b.getD 0 0:=by
    rw [List.pairwise_iff_getElem];intro i j hi hj hij;have Ec:j<d'.size:=by simpa using hj
    have:=hs i j (Nat.zero_le _) hij (by omega)
    rw [ltL] at this
    have h3:=of_decide_eq_false this;rw [getElem!_pos d' i (by omega),getElem!_pos d' j Ec] at h3
    simpa using Int.not_lt.1 h3
   have Rs:d'=(aC l).toArray:=by
    have:=aXv hn hperm hsorted;rw [← this]
   subst Rs;have hsu:=mU hu;have hsl:=eI l;have hw:∃ E9,(sortWorldK (nN k) k w b 0 m (aC l).toArray os).heap[b]? = some (.cells E9 ty (0,0))∧E9.size=arr.size∧∀ j,j<l.length*k→E9.getD j undef=(nN k (aC l).toArray[j / k]!)[j % k]! := by
    refine ⟨putCells id 0 (flatK (nN k) k (aC l).toArray) arr,?_,by simp [putCells],fun j hj => ?_⟩
    ·unfold sortWorldK grow putRowK putRow mapBlock
     have hlt:b<(w.heap.modify b (onCells (putCells id 0 (flatK (nN k) k (aC l).toArray)))).size:=by simpa using hb
     show (w.heap.modify b (onCells (putCells id 0 (flatK (nN k) k (aC l).toArray)))++os)[b]? = _;rw [Array.getElem?_append_left hlt,Array.getElem?_modify];simp [q2,onCells]
    ·have hja:j<arr.size:=by omega
     rw [Bn];unfold putCells;rw [Array.getElem?_mapIdx,qQ hja];have hsz:j<(flatK (nN k) k (aC l).toArray).size:=by rw [size_flatK];simpa [hsl] using hj
     simp only [Option.map_some,Option.getD_some,Nat.zero_le,true_and,gS,hsz,if_true,Nat.sub_zero,id];exact get_flatK _ _ _ _ (by simpa [hsl] using hj)
   obtain ⟨E9,w1,w2,w3⟩:=hw;have O6:((aC l).flatten.map aA).length=l.length*k:=by rw [B9,qV hsu,hsl]
   have hall:∀ j (h:j<((aC l).flatten.map aA).length),E9.getD j undef=(nN k (aC l).toArray[j / k]!)[j % k]! := fun j h=>w3 j (by omega)
   obtain ⟨f1,m1⟩:=aXu (Bl:=(aC l).flatten.map aA) (w':=sortWorldK (nN k) k w b 0 m (aC l).toArray os) hM hι q2 rfl rfl rfl
    (by unfold sortWorldK;rw [size_grow];show w.heap.size≤(w.heap.modify b _).size+_;simp)
    (fun b' h1 h2=>by
     show (w.heap.modify b (onCells (putCells id 0 (flatK (nN k) k (aC l).toArray)))++os)[b']? = _;rw [Array.getElem?_append_left (by simpa using h1),Array.getElem?_modify,if_neg (fun h=>h2 h.symm)])
    w1 w2 (by rw [O6,hlen]) (fun j h=>by rw [aKg hsu h,hall j h];exact .v _)
    (fun j h=>by
     rw [hall j h];have:=aFd k ((aC l).toArray[j / k]!) ((nN k (aC l).toArray[j / k]!)[j % k]!) (by
      have hm:j % k<(nN k (aC l).toArray[j / k]!).length:=by rw [aFc];exact bHs _ hk
      rw [List.getElem!_eq_getElem?_getD,Av hm];exact fG hm)
     exact this)
   exact ⟨_,rfl,C,f1,m1,.tup [] #[] rfl (fun i h=>by simp at h)⟩
end KV
end Go.Proofs
end
section
namespace Go.Proofs
open Go.RowKit Go.Lib Go.Sort Go.Shelf
namespace KV
open Tryz

theorem Mx:(Tryz.prog.info? 80).map (fun i=>i.size)=some 2:=by kernel_rfl
theorem My:(Tryz.prog.info? 84).map (fun i=>i.size)=some 6:=by kernel_rfl
theorem uI{t k:Nat}(h:(Tryz.prog.info? t).map (fun i=>i.size)=some k):∃ i,Tryz.prog.info? t=some i∧i.size=k:=by
 cases h2:Tryz.prog.info? t with
 | none=>rw [h2] at h;cases h
 | some i=>rw [h2] at h;exact ⟨i,rfl,by simpa using h⟩
theorem bJh(l:Lqq)(hu:uni 2 l)(hn:(aZ l 0).Nodup)(hl:l.length≤1000):FMM Tp 153 [.own 0,.fn 154 [] []] [some (.row 80 l.length (l.flatten.map aA))] (.tup []) [some (.row 80 (aC l).length ((aC l).flatten.map aA))] :=
 aRu (k:=2) (uI Mx) (by omega)
  (fun blk cap d w hH hb hd=>AnyQ.slices_SortFunc Tryz.sortSk 2 Tryz.isAgg80 Tryz.sizeOf80 (nN 2) (aFc 2) (aFd 2) cfL cMg 154 #[] blk 0 cap d w (enters_of func154 (by kernel_rfl) rfl)
   (fun m os dk _ x y=>cMe (x.getD 0 0) (x.getD 1 0) (y.getD 0 0) (y.getD 1 0) _) hH hb hd)
  (fun p cap fv w=>AnyF.slices_SortFunc_none Tryz.sortSk p cap fv w) l hu hn hl
theorem bJi(l:Lqq)(hu:uni 6 l)(hn:(aZ l 0).Nodup)(hl:l.length≤1000):FMM Tp 155 [.own 0,.fn 156 [] []] [some (.row 84 l.length (l.flatten.map aA))] (.tup []) [some (.row 84 (aC l).length ((aC l).flatten.map aA))] :=
 aRu (k:=6) (uI My) (by omega)
  (fun blk cap d w hH hb hd=>AnyQ.slices_SortFunc Tryz.sortDc 6 Tryz.isAgg84 Tryz.sizeOf84 (nN 6) (aFc 6) (aFd 6) cfL cMg 156 #[] blk 0 cap d w (enters_of func156 (by kernel_rfl) rfl)
   (fun m os dk _ x y=>cMf (x.getD 0 0) (x.getD 1 0) (x.getD 2 0) (x.getD 3 0) (x.getD 4 0) (x.getD 5 0) (y.getD 0 0) (y.getD 1 0) (y.getD 2 0) (y.getD 3 0) (y.getD 4 0) (y.getD 5 0) _) hH hb hd)
  (fun p cap fv w=>AnyF.slices_SortFunc_none Tryz.sortDc p cap fv w) l hu hn hl
end KV
end Go.Proofs
end
section
namespace Go.Proofs
open Go.RowKit Go.Lib Go.Shelf
namespace KV
open Tryz

theorem bJg{f ty k:Nat}(hsz:∃ i,Tryz.prog.info? ty=some i∧i.size=k)
  (h:∀ (p:Option Addr) (c:Nat) (w:World),Calls Tp f #[.slice p 0 c] w fun e w'=>∃ v',e = .returned v'∧w'.ownsRow w.heap.size ty k v' 0 []∧Below w.heap.size w w') {base:Nat} :
  FV Tp f [.p (.sl 0 [])] base (.own base) [(base,.row ty 0 [])]:=by
 refine ⟨.own 0,[some (.row ty 0 [])],fun C w us hus hM n => ?_,by simp [aPp,bPr,fO,bK,bPs,bFy]⟩
 obtain ⟨u,rfl,hu⟩:=sR hus;cases hu with
 | p _ _ hu =>
  have Vk:∃ p c,u = .slice p 0 c:=by cases hu with | sl n cs p cap us h1 h2 h3 h4 h5=>exact ⟨p,cap,rfl⟩
  obtain ⟨p,c,rfl⟩:=Vk;refine (callsIn_wide.2 (h p c w)).mono ?_;rintro e w' ⟨v',rfl,h1,h2⟩;have Dn:∀ (id:Nat) (o:AO),([some (.row ty 0 [])]:Mem)[id]? = some (some o)→id=0∧o = .row ty 0 []:=fun id o h=>by
   cases id with
   | zero=>simp at h;exact ⟨rfl,h.symm⟩
   | succ i=>simp at h
  have hno:∀ (id:Nat) (o:AO),¬ (([]:Mem)[id]? = some (some o)):=fun id o h=>by simp at h
  have hc:(v' = .slice none 0 0)∨∃ g cap cur,v' = .slice (some ⟨g,0,none⟩) 0 cap∧w.heap.size≤g∧w'.heap[g]? = some (.cells cur ty (0,0))∧cap≤maxLen∧cur.size=cap*k:=by
   rcases h1.2 with ⟨he,h0⟩ | ⟨g,cp,cur,he,hg,hh,r1,r2,r3,r4⟩
   ·exact .inl he
   ·exact .inr ⟨g,cp,cur,he,hg,hh,r2,r3⟩
  have new:∀ b,v'.ownBlock=some b→w.heap.size≤b∧b<w'.heap.size:=fun b hb=>by
   rcases hc with rfl | ⟨g,cap,cur,rfl,hg,hh,_⟩
   ·cases hb
   ·cases hb;exact ⟨hg,lt_of_block hh⟩
  refine ⟨_,rfl,{ ι:=fun _=>v'.ownBlock,κ:=fun _=>(match v' with | .slice _ _ c=>c | _=>0),F:=C.F },⟨h2.os,h2.tape,h2.output,h2.size,fun b hb _=>h2.block b hb,fun id o h=>absurd h (hno id o),fun id o h=>absurd h (hno id o),fun id o h=>absurd h (hno id o),fun id o b hm hl hb => .inl (new b hb).1,fun _ h=>h,fun _ h => .inl h⟩,
   ⟨fun id ty n cs hm => ?_,fun id ty cs hm => ?_,fun id es cl hm => ?_,fun id F7 o o' b q1 _ q2 _ _ _ => ?_,fun id o b hm hl hb hf => ?_,fun b hb=>fU (hM.Fs b hb) h2.size,fun id o b hm hl hb=>(new b hb).2⟩,?_⟩
  ·obtain ⟨rfl,he⟩:=Dn _ _ hm
   cases he
   rcases hc with rfl | ⟨g,cap,cur,rfl,_,hh,r2,r3⟩
   ·exact .inl ⟨rfl,rfl,rfl⟩
   ·obtain ⟨i,hi,hs⟩:=hsz
    exact .inr ⟨g,cur,i,rfl,hh,hi,by rw [hs];exact r3,by simp,Nat.zero_le _,r2,fun j h=>by simp at h,fun j h=>by simp at h⟩
  ·obtain ⟨_,he⟩:=Dn _ _ hm;cases he
  ·obtain ⟨_,he⟩:=Dn _ _ hm;cases he
  ·obtain ⟨rfl,_⟩:=Dn _ _ q1
   obtain ⟨rfl,_⟩:=Dn _ _ q2;rfl
  ·have:=hM.Fs _ hf
   have:=(new b hb).1;omega
  ·have h0:v'.oneCell'=true:=by rcases hc with rfl | ⟨g,cap,cur,rfl,_⟩ <;> rfl
   refine .own 0 _ h0 ⟨_,rfl⟩ fun Cr n cs hm => ?_
   obtain ⟨_,he⟩:=Dn _ _ hm;cases he
   rcases hc with rfl | ⟨g,cap,cur,rfl,_⟩
   ·exact .inl ⟨rfl,rfl,rfl⟩
   ·exact .inr ⟨g,rfl,rfl⟩
end KV
end Go.Proofs
end
namespace Go.Proofs
namespace KV
open Tryz
section

theorem yB{k:Nat}{l:Lqq}(hu:uni k l):(l.flatten.map aA).length=l.length*k:=by rw [B9,qV hu]
end
section

theorem cFi{dl:Int}{sk dc:Lqq}(h0:uni 2 sk)(h1:uni 6 dc)(h2:(bRz dl sk dc)=0)(h3:0≤(sk.length:Int)∧(sk.length:Int)≤(sk.length:Int)∧(sk.length:Int)≤1000000)(h4:0≤(dc.length:Int)∧(dc.length:Int)≤(dc.length:Int)∧(dc.length:Int)≤1000000)(h5:(aZ sk 0).Nodup)(h6:sk.length≤1000)(h7:(aZ dc 0).Nodup)(h8:dc.length≤1000){base:Nat}:FV Tp 88 [(.p (.agg (kF dl sk dc)))] base (.tup [(.p (.agg (kF dl (aC sk) (aC dc)))),(pI 0)]) []:=have k1:=fk 2 (cFk dl sk dc h0 h1) rfl;have k2:=mq [3] 7 (bJh sk h0 h5 h6);have k3:=mq [5] 7 (bJi dc h1 h7 h8);FV.frz (FMM.fi 0 ⟨[],[],[3,5],[]⟩ func88 [k1.o,bF,k2.o,k3.o] (gc k3 (gc k2 (gt ((dc.flatten.map aA).length=dc.length*6∧dc.length=dc.length) ⟨yB h1,rfl⟩ (gt ((sk.flatten.map aA).length=sk.length*2∧sk.length=sk.length) ⟨yB h0,rfl⟩ (gc h4 (gc h3 (gc (fW h2) (gc k1 gn))))))))) (by kernel_rfl)
theorem cFj(dl:Int)(sk dc:Lqq)(h:cK dl sk dc){base:Nat}:FV Tp 88 [.p (.agg (kF dl sk dc))] base (.tup [.p (.agg (kF dl (aC sk) (aC dc))),.p (aA 0)]) []:=by
 have h1:=h.len;have h2:=h.len2;exact cFi h.us h.ud ((bXz h.us h.ud).2 h) (by omega) (by omega) h.ns (by omega) h.nd (by omega)
theorem aRt{k:Nat}{l:Lqq}{x:List Int}(hu:uni k l)(hx:x.length=k):uni k (l++[x]):=fun y hy=>by
 rcases fV.1 hy with h | h
 ·exact hu y h
 ·simp at h;rw [h];exact hx
end
end KV
end Go.Proofs
