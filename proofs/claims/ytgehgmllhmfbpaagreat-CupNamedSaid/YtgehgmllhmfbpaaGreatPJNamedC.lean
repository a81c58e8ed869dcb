/- Parts of the proof of JNamed: laws of walks, contracts of functions, plain models. No condition. -/
import Derived.ProofKit
import Derived.Carry
import Derived.WalkKit
import Derived.Test.YtgehgmllhmfbpaaGreatProg
import Derived.Shelf.Abstract
import Derived.Shelf.Small.Bits
import Derived.Shelf.Small.Wraps
import Derived.Shelf.Strconv.Itoa0
import Derived.Shelf.Sort.Plain
import Derived.Ground.Names2Prog
import Derived.Shelf.Slices.Clone
import Derived.Shelf.Slices.CompactI
import Derived.Shelf.Slices.In.SortNone
import Derived.Shelf.SlicesE.DeleteFunc
import Derived.Ground.SlgfProg
import Derived.Sort.OwnSortedInts
import Derived.Lib.OwnBridge
import Derived.OneCell
import Derived.Deep.QuietTactic
import Derived.BigQuiet
import Derived.Deep.MidRow
import Derived.StillTail
import Derived.ChangeKeysEq
import Derived.Deep.Cut
import Derived.RangeFuncNested
import Derived.RangeFuncLeaves
import Derived.OwnWalkIn
import Derived.TacticsInMore
import Derived.LoopNIn
import Derived.LoopIn
import Derived.OrdersHeld
import Derived.OwnWalk
import Derived.Laws.OwnMore
import Derived.Laws.CopyOwn
import Derived.Test.YtgehgmllhmfbpaaGreatPJNamedB
set_option linter.unusedVariables false
set_option linter.unusedSimpArgs false
set_option maxRecDepth 100000
namespace Go.Proofs
namespace KV
section
/-- numbers, by runs -/
def rng:List (Nat × Nat)→List Nat
  | []=>[]
  | (a,n)::r=>List.range' a n++rng r

abbrev intP(n:Int):PV := .v (.int .i64 n)
abbrev blP(b:Bool):PV := .v (.bool b)
abbrev intsP(l:List Int):PV := .sl l.length (l.map intP)
abbrev rowsP(l:List (List Int)):PV := .sl l.length (l.map intsP)
abbrev nilS:PV := .v (.slice none 0 0)

def EO:Env:=⟨fun _ _ _ _=>none,ok⟩
theorem EO_ok:EnvOK Tryz.prog EO:=⟨fun _ _ _ _ _ _ h=>(by cases h),ok_run⟩

def cd(f:Func):Code:=f.body.getD .skip
def sub:Code→List Nat→Code
  | c,[]=>c
  | .seq a b,i::r=>match i with | 0=>sub a r | _=>sub b r
  | .cond _ a b,i::r=>match i with | 0=>sub a r | _=>sub b r
  | .block _ b,_::r=>sub b r
  | .loop b,_::r=>sub b r
  | .scope b,_::r=>sub b r
  | .rangeFunc _ _ a b,i::r=>match i with | 0=>sub a r | _=>sub b r
  | _,_::_ => .skip
def look:List (Nat × AV)→Nat→AV
  | [],_ => .any
  | (i,x)::r,k=>match Nat.beq i k with
    | true=>x
    | false=>look r k
def frm(l:List (Nat × AV)):Nat→Nat→List AV
  | 0,_=>[]
  | n+1,k=>look l k::frm l n (k+1)
abbrev fr(n:Nat)(l:List (Nat × AV)):List AV:=frm l n 0

abbrev asg(o:List OI):AS:=⟨false,o,[]⟩
abbrev out(l:List Prop):AS:=⟨false,[],l⟩
theorem gn:Good (out []):=fun _ h=>by simp at h
theorem gc{p:Prop}{l:List Prop}(hp:p)(h:Good (out l)):Good (out (p::l)):=fun q hq=>by
  rcases List.mem_cons.1 hq with rfl | hq
  · exact hp
  · exact h q hq

theorem FV.run{f base:Nat}{fn:Func}{c:Code}{args:List AV}{r y:AV}{M1:Mem}{L:Upd}{o:List OI}{l:List Prop}(hf:Tryz.prog.funcs[f]? = some fn)(hb:fn.body=some c)
    (h:runF Tryz.prog tT EO 0 fn c args [] (asg o)=some ((r,M1),out l)) (ho:outP M1 base r=some (y,L)) (g:Good (out l)):FV Tryz.prog f args base y L :=
  ⟨r,M1,runF_sound tT_ok EO_ok mixed hf hb h g,ho⟩
theorem FMM.run{f:Nat}{fn:Func}{c:Code}{args:List AV}{r:AV}{M M1:Mem}{o:List OI}{l:List Prop}(hf:Tryz.prog.funcs[f]? = some fn)(hb:fn.body=some c)
    (h:runF Tryz.prog tT EO 0 fn c args M (asg o)=some ((r,M1),out l)) (g:Good (out l)):FMM Tryz.prog f args M r M1:=runF_sound tT_ok EO_ok mixed hf hb h g
theorem CodeOK.run{k:Nat}{c:Code}{st st1 st':St}{e:Ex}{g:Gh}{o:List OI}{l:List Prop}(h:runC Tryz.prog tT EO k 0 c st (asg o)=some ((e,st1),out l))(hg:gh k g st1=some st')(gd:Good (out l)):CodeOK Tryz.prog k c st e st' :=
  (runC_sound tT_ok EO_ok mixed c h gd).post hg

def finF(base:Nat)(x:Option ((AV × Mem) × AS)):Option (AV × Upd × List Prop × List OI):=match x with
  | some ((r,M1),s)=>match outP M1 base (unA r) with
    | some (y,L)=>some (y,L,s.obs,s.o)
    | none=>none
  | none=>none
theorem FV.fin{f base:Nat}{fn:Func}{args:List AV}{y:AV}{L:Upd}{o:List OI}{l:List Prop}(hf:Tryz.prog.funcs[f]? = some fn)(hb:fn.body.isSome=true)
    (h:finF base (runF Tryz.prog tT EO 0 fn (cd fn) args [] (asg o))=some (y,L,l,[])) (g:Good (out l)):FV Tryz.prog f args base y L:=by
  unfold finF at h
  split at h
  · rename_i r M1 s hr
    split at h
    · rename_i y' L' ho
      simp only [Option.some.injEq,Prod.mk.injEq] at h
      obtain ⟨rfl,rfl,rfl,hs⟩:=h
      refine ⟨unA r,M1,(FMMP.un (runF_soundP tT_ok EO_ok mixed hf ?_ hr (fun p hp=>g p hp))).fmm,ho⟩
      unfold cd
      cases h1:fn.body with
      | none=>rw [h1] at hb;cases hb
      | some c=>rfl
    · cases h
  · cases h
def finC(k:Nat)(g:Gh)(x:Option ((Ex × St) × AS)):Option (Ex × St × List Prop × List OI):=match x with
  | some ((e,st1),s)=>match gh k g st1 with
    | some st'=>some (e,st',s.obs,s.o)
    | none=>none
  | none=>none
theorem CodeOK.fin{k:Nat}{c:Code}{st st':St}{e:Ex}{g:Gh}{o:List OI}{l:List Prop}(h:finC k g (runC Tryz.prog tT EO k 0 c st (asg o))=some (e,st',l,[]))(gd:Good (out l)):CodeOK Tryz.prog k c st e st':=by
  unfold finC at h
  split at h
  · rename_i e1 st1 s hr
    split at h
    · rename_i st2 hg
      simp only [Option.some.injEq,Prod.mk.injEq] at h
      obtain ⟨rfl,rfl,rfl,hs⟩:=h
      exact (runC_sound tT_ok EO_ok mixed c hr (fun p hp=>gd p hp)).post hg
    · cases h
  · cases h
theorem FMMP.fin{f k:Nat}{fn:Func}{args:List AV}{M M':Mem}{r:AV}{g:Gh}{o:List OI}{l:List Prop}(hk:M.length=k)(hf:Tryz.prog.funcs[f]? = some fn)(hb:fn.body.isSome=true)
    (h:finM k g (runF Tryz.prog tT EO 0 fn (cd fn) args M (asg o))=some (r,M',l,[])) (gd:Good (out l)):FMMP Tryz.prog f args M r M':=by
  unfold finM at h
  split at h
  · rename_i r1 M1 s hr
    split at h
    · rename_i r2 M2 hg
      simp only [Option.some.injEq,Prod.mk.injEq] at h
      obtain ⟨rfl,rfl,rfl,hs⟩:=h
      refine FMMP.gh (Nat.le_of_eq hk) (FMMP.un (runF_soundP tT_ok EO_ok mixed hf ?_ hr (fun p hp=>gd p hp))) hg
      unfold cd
      cases h1:fn.body with
      | none=>rw [h1] at hb;cases hb
      | some c=>rfl
    · cases h
  · cases h
theorem FMM.fin{f k:Nat}{fn:Func}{args:List AV}{M M':Mem}{r:AV}{g:Gh}{o:List OI}{l:List Prop}(hk:M.length=k)(hf:Tryz.prog.funcs[f]? = some fn)(hb:fn.body.isSome=true)
    (h:finM k g (runF Tryz.prog tT EO 0 fn (cd fn) args M (asg o))=some (r,M',l,[])) (gd:Good (out l)):FMM Tryz.prog f args M r M':=(FMMP.fin hk hf hb h gd).fmm
theorem FV.frz{P:Program}{f base:Nat}{args:List AV}{y:AV}(h:FMM P f args [] y [])(ho:outP [] base y=some (y,[])):FV P f args base y []:=⟨y,[],h,ho⟩
theorem CodeOK.cast{P:Program}{k:Nat}{c:Code}{st st1 st':St}{e:Ex}(h:CodeOK P k c st e st1)(he:st1=st'):CodeOK P k c st e st':=he ▸ h
def setS(st:St)(l:List (Nat × AV)):St:=⟨l.foldl (fun t p=>t.set p.1 p.2) st.t,st.m⟩

theorem q_eq{x y:Int}(h:x=y):(x == y)=true:=by simpa using h
theorem q_ne{x y:Int}(h:x≠y):(x == y)=false:=by simpa using h
theorem q_neT{x y:Int}(h:x≠y):(x != y)=true:=by simpa using h
theorem q_neF{x y:Int}(h:x=y):(x != y)=false:=by simpa using h
theorem q_lt{x y:Int}(h:x<y):decide (x<y)=true:=by simpa using h
theorem q_ltF{x y:Int}(h:y≤x):decide (x<y)=false:=by simpa using h
theorem q_le{x y:Int}(h:x≤y):decide (x≤y)=true:=by simpa using h
theorem q_leF{x y:Int}(h:y<x):decide (x≤y)=false:=by simpa using h
theorem q_not{b:Bool}(h:b=false):(!b)=true:=by simpa using h
theorem q_notF{b:Bool}(h:b=true):(!b)=false:=by simpa using h

theorem at_map{α:Type}{g:α→PV}{l:List α}{i:Nat}{x:α}(h:l[i]? = some x):(l.map g)[i*1]? = some (g x):=by rw [Nat.mul_one,List.getElem?_map,h];rfl
theorem ix_map{α:Type}{g:α→PV}{l:List α}{i:Int}{x:α}(h0:0≤i)(h:l[i.toNat]? = some x):0≤i∧i<(l.length:Int)∧i.toNat*1<(l.map g).length:=by
  obtain ⟨h1,_⟩:=List.getElem?_eq_some_iff.1 h
  refine ⟨h0,by omega,by simpa using h1⟩
theorem ix_own{α:Type}{l:List α}{i:Int}{x:α}(h0:0≤i)(h:l[i.toNat]? = some x):0≤i∧i<(l.length:Int):=by
  obtain ⟨h1,_⟩:=List.getElem?_eq_some_iff.1 h
  exact ⟨h0,by omega⟩
theorem fk{P:Program}{f:Nat}{args:List AV}{y:AV}{L:Upd}(base:Nat)(h:FV P f args base y L)(hn:noRefL args=true):FC P f args [] base y L:=h.fc hn
theorem fv{P:Program}{f base:Nat}{args args':List AV}{y:AV}{L:Upd}{bs:List (Nat × AO)}(h:FV P f args' base y L)(hv:viewL (upds [] bs) args=some args':=by kernel_rfl)(h1:rigA y=true:=by kernel_rfl)(h2:rigU L=true:=by kernel_rfl):FC P f args bs base y L:=h.view hv h1 h2
theorem ixn{α:Type}{l:List α}{i:Nat}{x:α}(g:α→PV)(h:l[i]? = some x):0≤(i:Int)∧(i:Int)<(l.length:Int)∧(i:Int).toNat*1<(l.map g).length:=ix_map (Int.natCast_nonneg _) (by rwa [Int.toNat_natCast])
theorem atm{α:Type}{l:List α}{i:Nat}{x:α}(g:α→PV)(h:l[i]? = some x):(l.map g)[i*1]? = some (g x):=at_map h
abbrev bF:OI := .b false
abbrev bT:OI := .b true
end
section
section
variable {P:Program} {k:Nat} {b:Code} {α:Type}
theorem LoopOK.find(S:Nat→St)(R1:Nat→α→St)(R2:St)(e1 e2:Ex)(h1:e1 ≠ .normal)(h2:e2 ≠ .normal)(p:α→Bool)(l:List α)
    (hs:∀ (i:Nat) (x:α),l[i]? = some x→p x=false→CodeOK P k b (S i) .normal (S (i+1)))
    (hq:∀ (i:Nat) (x:α),l[i]? = some x→p x=true→CodeOK P k b (S i) e1 (R1 i x))
    (hx:CodeOK P k b (S l.length) e2 R2) :
    (∃ i x,l[i]? = some x∧l.findIdx? p=some i∧p x=true∧LoopOK P k b (S 0) e1 (R1 i x))∨(l.findIdx? p=none∧l.any p=false∧LoopOK P k b (S 0) e2 R2):=by
  have key:∀ (r:List α) (i:Nat),l.drop i=r→i≤l.length→(∃ j x,l[i+j]? = some x∧r.findIdx? p=some j∧p x=true∧LoopOK P k b (S i) e1 (R1 (i+j) x))∨(r.findIdx? p=none∧r.any p=false∧LoopOK P k b (S i) e2 R2):=by
    intro r
    induction r with
    | nil =>
      intro i hd hi
      have:i=l.length:=by have:=congrArg List.length hd;simp at this;omega
      subst this
      exact .inr ⟨rfl,rfl,.exit hx h2⟩
    | cons x r ih =>
      intro i hd hi
      have hl:l[i]? = some x:=by
        have:=congrArg (·[0]?) hd
        simpa using this
      have hlt:i<l.length:=(List.getElem?_eq_some_iff.1 hl).1
      cases hp:p x with
      | true=>exact .inl ⟨0,x,by simpa using hl,by simp [List.findIdx?_cons,hp],hp,.exit (hq i x hl hp) h1⟩
      | false =>
        have hd':l.drop (i+1)=r:=by
          have:=congrArg List.tail hd
          simpa [List.tail_drop] using this
        rcases ih (i+1) hd' (by omega) with ⟨j,y,q1,q2,q3,q4⟩ | ⟨q1,q2,q3⟩
        · refine .inl ⟨j+1,y,by rw [← q1];congr 1;omega,by simp [List.findIdx?_cons,hp,q2],q3,?_⟩
          rw [show i+(j+1)=i+1+j by omega]
          exact .step (hs i x hl hp) q4
        · exact .inr ⟨by simp [List.findIdx?_cons,hp,q1],by simp [hp,q2],.step (hs i x hl hp) q3⟩
  rcases key l 0 (by simp) (Nat.zero_le _) with ⟨j,x,q1,q2,q3,q4⟩ | q
  · exact .inl ⟨j,x,by simpa using q1,q2,q3,by simpa using q4⟩
  · exact .inr q
end
theorem LoopOK.times{P:Program}{k:Nat}{b:Code}{β:Type}{e:Ex}(S:Nat→β→St)(R:β→St)(f:β→Nat→β)(Inv:Nat→β→Prop)(he:e ≠ .normal)(n:Nat){a0:β}(h0:Inv 0 a0)
    (hs:∀ (i:Nat) (acc:β),i<n→Inv i acc→Inv (i+1) (f acc i)∧CodeOK P k b (S i acc) .normal (S (i+1) (f acc i)))
    (hx:∀ acc,Inv n acc→CodeOK P k b (S n acc) e (R acc)):LoopOK P k b (S 0 a0) e (R ((List.range n).foldl f a0)):=by
  refine LoopOK.range S R f Inv he (List.range n) h0 (fun i x acc hl hI => ?_) (fun acc hI => ?_)
  · obtain ⟨h1,rfl⟩:=List.getElem?_eq_some_iff.1 hl
    rw [List.getElem_range]
    exact hs i acc (by simpa using h1) hI
  · rw [List.length_range] at hI ⊢
    exact hx acc hI
theorem foldl_filter{p:Nat→Bool}:∀ (l:List Nat) (a:List Int),l.foldl (fun acc s=>if p s then acc++[(s:Int)] else acc) a=a++(l.filter p).map fun (s:Nat)=>(s:Int)
  | [],a=>by simp
  | x::l,a=>by
    rw [List.foldl_cons,foldl_filter l]
    by_cases h:p x <;> simp [h]
theorem foldl_map{g:Nat→Int}:∀ (l:List Nat) (a:List Int),l.foldl (fun acc s=>acc++[g s]) a=a++l.map g
  | [],a=>by simp
  | x::l,a=>by
    rw [List.foldl_cons,foldl_map l]
    simp
def idxF{α:Type}(p:α→Bool)(l:List α):Int:=match l.findIdx? p with
  | some i=>(i:Int)
  | none => -1
theorem idxF_some{α:Type}{p:α→Bool}{l:List α}{i:Nat}(h:l.findIdx? p=some i):idxF p l=(i:Int):=by unfold idxF;rw [h]
theorem idxF_none{α:Type}{p:α→Bool}{l:List α}(h:l.findIdx? p=none):idxF p l = -1:=by unfold idxF;rw [h]
theorem idxF_any{α:Type}(p:α→Bool)(l:List α):decide (idxF p l ≥ 0)=l.any p:=by
  unfold idxF
  cases h:l.findIdx? p with
  | none =>
    have:l.any p=false:=by simpa using h
    simp [this]
  | some i =>
    have:l.any p=true:=by
      have h2:(l.findIdx? p).isSome=true:=by rw [h];rfl
      rwa [List.findIdx?_isSome] at h2
    simp [this]
def uni(k:Nat)(L:List (List Int)):Prop:=∀ x∈L,x.length=k
theorem uni_tail{k:Nat}{x:List Int}{L:List (List Int)}(h:uni k (x::L)):uni k L:=fun y hy=>h y (List.mem_cons_of_mem _ hy)
theorem fl_drop{k:Nat}:∀ {L:List (List Int)} (i:Nat),uni k L→(L.flatten).drop (i*k)=(L.drop i).flatten
  | [],i,_=>by simp
  | x::L,0,_=>by simp
  | x::L,i+1,h=>by
    have hx:=h x (by simp)
    rw [List.flatten_cons,List.drop_succ_cons,← fl_drop i (uni_tail h),List.drop_append]
    rw [List.drop_eq_nil_of_le (by rw [hx,Nat.succ_mul];omega),List.nil_append]
    congr 1
    rw [hx,Nat.succ_mul];omega
theorem fl_take{k:Nat}:∀ {L:List (List Int)} (i:Nat),uni k L→(L.flatten).take (i*k)=(L.take i).flatten
  | [],i,_=>by simp
  | x::L,0,_=>by simp
  | x::L,i+1,h=>by
    have hx:=h x (by simp)
    rw [List.flatten_cons,List.take_succ_cons,List.flatten_cons,← fl_take i (uni_tail h),List.take_append]
    rw [List.take_of_length_le (by rw [hx,Nat.succ_mul];omega)]
    congr 2
    rw [hx,Nat.succ_mul];omega
theorem fl_len{k:Nat}:∀ {L:List (List Int)},uni k L→(L.flatten).length=L.length*k
  | [],_=>by simp
  | x::L,h=>by rw [List.flatten_cons,List.length_append,fl_len (uni_tail h),h x (by simp),List.length_cons,Nat.succ_mul];omega
theorem fl_at{k i:Nat}{L:List (List Int)}{x:List Int}(h:uni k L)(hx:L[i]? = some x):((L.flatten).drop (i*k)).take k=x:=by
  have hl:x.length=k:=h x (List.mem_of_getElem? hx)
  obtain ⟨hi,he⟩:=List.getElem?_eq_some_iff.1 hx
  rw [fl_drop i h,List.drop_eq_getElem_cons hi,List.flatten_cons,he,List.take_append_of_le_length (by omega),List.take_of_length_le (by omega)]
theorem fl_le{k i:Nat}{L:List (List Int)}{x:List Int}(h:uni k L)(hx:L[i]? = some x):i*k+k≤(L.flatten.map intP).length:=by
  obtain ⟨hi,_⟩:=List.getElem?_eq_some_iff.1 hx
  rw [List.length_map,fl_len h]
  have:(i+1)*k≤L.length*k:=Nat.mul_le_mul_right _ hi
  rw [Nat.succ_mul] at this;exact this
theorem fl_load{k i:Nat}{L:List (List Int)}{x:List Int}(h:uni k L)(hx:L[i]? = some x):some (PV.agg (((L.flatten.map intP).drop (i*k)).take k))=some (.agg (x.map intP)):=by
  rw [← List.map_drop,← List.map_take,fl_at h hx]
theorem fl_field{k i f:Nat}{L:List (List Int)}{x:List Int}{y:Int}(h:uni k L)(hx:L[i]? = some x)(hy:x[f]? = some y):(L.flatten.map intP)[i*k+f]? = some (intP y):=by
  have hl:x.length=k:=h x (List.mem_of_getElem? hx)
  have hf:f<k:=by rw [← hl];exact (List.getElem?_eq_some_iff.1 hy).1
  have:=congrArg (·[f]?) (fl_at h hx)
  simp only [List.getElem?_take,hf,if_true,List.getElem?_drop] at this
  rw [List.getElem?_map,this,hy];rfl
theorem fl_store{k i:Nat}{L:List (List Int)}{x:List Int}(h:uni k L)(hi:i<L.length)(hx:x.length=k):((L.flatten.map intP).take (i*k)++x.map intP++(L.flatten.map intP).drop (i*k+k))=((L.set i x).flatten.map intP):=by
  have e:i*k+k=(i+1)*k:=by rw [Nat.succ_mul]
  rw [← List.map_take,← List.map_drop,← List.map_append,← List.map_append,fl_take i h,e,fl_drop (i+1) h]
  rw [List.set_eq_take_append_cons_drop,if_pos hi,List.flatten_append,List.flatten_cons,List.append_assoc]
theorem uni_set{k i:Nat}{L:List (List Int)}{x:List Int}(h:uni k L)(hx:x.length=k):uni k (L.set i x):=fun y hy=>by
  rcases List.mem_or_eq_of_mem_set hy with h1 | rfl
  · exact h y h1
  · exact hx
theorem len2{x:List Int}(h:x.length=2):∃ a b,x=[a,b]:=by
  match x,h with
  | [a,b],_=>exact ⟨a,b,rfl⟩
theorem len4{x:List Int}(h:x.length=4):∃ a b c d,x=[a,b,c,d]:=by
  match x,h with
  | [a,b,c,d],_=>exact ⟨a,b,c,d,rfl⟩
theorem sl_cast{α:Type}{g:α→PV}{n:Nat}{cs:List PV}{l:List α}(h1:n=l.length)(h2:cs=l.map g):PV.sl n cs = .sl l.length (l.map g):=by subst h1;subst h2;rfl
theorem at_nil{l:List PV}{i:Nat}{x:PV}(h:l[i]? = some x):(l++[])[i]? = some x:=by rw [List.append_nil];exact h
theorem ix_fl{k:Nat}{L:List (List Int)}{i:Int}{x:List Int}(hk:0<k)(hu:uni k L)(h0:0≤i)(h:L[i.toNat]? = some x):0≤i∧i<(L.length:Int)∧i.toNat*k<(L.flatten.map intP).length:=by
  have h1:=fl_le hu h
  obtain ⟨h2,_⟩:=List.getElem?_eq_some_iff.1 h
  exact ⟨h0,by omega,by omega⟩
theorem inR_nat{n:Nat}(h:n≤1000000):inR ((n:Nat):Int):=by unfold inR;omega
theorem lt_of_at{α:Type}{l:List α}{i:Nat}{x:α}(h:l[i]? = some x):i<l.length:=(List.getElem?_eq_some_iff.1 h).1
abbrev small(n:Nat):Prop:=n<1000000
end
end KV
end Go.Proofs
section
namespace Go.Proofs
open Go.ChangeShapes Go.WideShapes Go.ChangeAt Go.RowKit
namespace KV
variable {P:Program} {W W':World}

def CxW(W:World):Cx:={ ι:=fun _=>none,κ:=fun _=>0,F:=fun b=>b<W.heap.size }
theorem memW(W:World):MemOK P (CxW W) [] W:=⟨fun i ty n cs h=>by simp at h,fun i ty cs h=>by simp at h,fun i es cl h=>by simp at h,fun i i' o o' b h=>by simp at h,fun i o b h=>by simp at h,fun b h=>h,fun i o b h=>by simp at h⟩

theorem FV.law{f:Nat}{args:List AV}{us:List Value}(h:∀ base:Nat,FV P f args base (.p (blP true)) [])(hn:noRefL args=true)(hus:RepL (CxW W) [] W args us):Calls P f us.toArray W fun e W'=>e = .returned (.bool true)∧Below W.heap.size W W':=by
  have hc:=(h 0).fc (bs:=[]) hn [] (fun p hp=>by simp at hp) rfl
  refine (callsIn_wide (n:=0)).1 ((hc (CxW W) W us hus (memW W) 0).mono ?_)
  rintro e w' ⟨u,rfl,C',hF,hM,hr⟩
  cases hr with
  | p _ _ h =>
    cases h
    exact ⟨rfl,hF.os,hF.tape,hF.out,hF.size,fun b hb=>hF.keep b hb fun id o ho=>by simp at ho⟩

section
variable {H:Type} {enc:TypeId × Value→H}
theorem TrodAll_below(hl:laidOutB P=true)(hb:Below W.heap.size W W'):∀ {ts:List TypeId} {vs:List Value} {ds:List (DataW H)} {ps:List MemPlace},(ts.all fun t=>P.readableRec t && decide (t<P.types.size))=true→DataW.TrodAll enc P W 0 (fun _=>true) true ts vs ds ps→(∀ x∈ps,x.block<W.heap.size) →
    DataW.TrodAll enc P W' 0 (fun b=>decide (b<W.heap.size)) true ts vs ds ps
  | [],[],[],_,_,h,_=>h
  | t::ts,v::vs,d::ds,ps,hr,⟨p,q,h1,h2,e⟩,hlt=>by
    rw [List.all_cons,Bool.and_eq_true,Bool.and_eq_true,decide_eq_true_eq] at hr
    subst e
    exact ⟨p,q,Below.trod hl hr.1.1 hr.1.2 h1 hb (fun x hx=>hlt x (List.mem_append_left _ hx)),TrodAll_below hl hb hr.2 h2 (fun x hx=>hlt x (List.mem_append_right _ hx)),rfl⟩
  | [],_::_,_,_,_,h,_=>h.elim
  | _::_,[],_,_,_,h,_=>h.elim
  | [],[],_::_,_,_,h,_=>h.elim
  | _::_,_::_,[],_,_,h,_=>h.elim

theorem spot_none{a:Addr}{v:Value}(h:W.cell? (a.add 0)=some v):a=⟨a.block,a.off,none⟩:=by
  obtain ⟨b,o,s⟩:=a
  cases s with
  | none=>rfl
  | some x =>
    unfold World.cell? at h
    simp only [Addr.add,if_true] at h
    split at h <;> simp at h

theorem read_ints{t e:TypeId}{k:IntKind}{v:Value}{d:DataW H}{ps:List MemPlace}{base:Nat}(ht:P.underlying t=some (.slice e))(he:P.underlying e=some (.int k))(hc:P.cellsOf e=1)(hok:Value.okWide P W .any base t v)
    (h:DataW.Trod enc P W 0 (fun _=>true) true t v d ps):∃ l:List Int,RepP (CxW W).F W (.sl l.length (l.map fun n => .v (.int k n))) v∧(∀ n∈l,(Lit.int k n).wf=true)∧l.length≤maxLen:=by
  obtain ⟨a0,len,cap,rfl⟩:=okWide_slice ht hok
  obtain ⟨fuel,hf⟩:=h
  rcases open_ints ht he hc hf with ⟨hcs,hx⟩ | ⟨a,len',cap',zs,hcs,_,hl,hm,hz,hx,hcell,hwz⟩
  · simp [Value.cells] at hcs
    obtain ⟨rfl,rfl,rfl⟩:=hcs
    exact ⟨[],.sl 0 [] none 0 (fun _=>undef) (Nat.le_refl _) (Nat.zero_le _) (fun i h=>by simp at h) (fun i h=>by simp at h) (fun i h=>by simp at h),fun n h=>by simp at h,Nat.zero_le _⟩
  · simp [Value.cells] at hcs
    obtain ⟨rfl,rfl,rfl⟩:=hcs
    simp only [if_true] at hz
    have hlen:(zs.take len).length=len:=by rw [List.length_take];omega
    refine ⟨zs.take len,?_,fun n hn=>hwz n (List.mem_of_mem_take hn),by rw [hlen];omega⟩
    rw [hlen]
    refine .sl len _ (some a) cap (fun i => .int k (zs.getD i 0)) hl hm (fun i hi => ?_) (fun i hi => ?_) (fun i hi=>rfl)
    · have hi':i<len:=by rw [List.length_map,hlen] at hi;exact hi
      have q1:=spot_none (hcell 0 (by omega))
      have q2:=hcell i (by omega)
      rw [q1,Addr.add_lit] at q2
      exact ⟨a.block,a.off,by rw [← q1],World.block_lt_of_cell? W ⟨a.block,a.off+i,none⟩ q2,q2⟩
    · have hi':i<len:=by rw [List.length_map,hlen] at hi;exact hi
      simp only [List.getElem_map,List.getElem_take]
      have:zs.getD i 0=zs[i]'(by omega):=by rw [List.getD_eq_getElem?_getD,List.getElem?_eq_getElem (by omega)];rfl
      rw [this]
      exact .v _
end
end KV
end Go.Proofs
end
section
namespace Go.Proofs
open Go.RowKit
namespace KL

theorem hid{p:Prop}(h:p):Hid p:=h

theorem ret_int{k:IntKind}{a b:Int}(h:a=b):Ending.returned (.int k a) = .returned (.int k b):=by rw [h]
theorem ret_bool{a b:Bool}(h:a=b):Ending.returned (.bool a) = .returned (.bool b):=by rw [h]

def Ret(v:Value)(w:World)(e:Ending)(w':World):Prop:=e = .returned v∧Below w.heap.size w w'
def Gives(P:Program)(f:FuncId)(args:Array Value)(v:Value)(w:World):Prop:=∀ W,Below w.heap.size w W→Calls P f args W (Ret v W)

theorem Gives.below{P:Program}{f:FuncId}{args:Array Value}{v:Value}{w W:World}(h:Gives P f args v w)(hb:Below w.heap.size w W):Gives P f args v W :=
  fun W' hb'=>h W' (hb.trans (hb'.mono hb.size))

theorem bcell{W w1:World}(hb:Below W.heap.size W w1):(∀ b o,b<W.heap.size→w1.cell? ⟨b,o,none⟩=W.cell? ⟨b,o,none⟩)∧(∀ b o,b<W.heap.size→w1.frozen? ⟨b,o,none⟩=W.frozen? ⟨b,o,none⟩) :=
  ⟨fun b o h=>hb.cell (p:=⟨b,o,none⟩) h,fun b o h=>hb.frozen (p:=⟨b,o,none⟩) h⟩

theorem below_of_grown{w w':World}(h:w.grownBy w' none):Below w.heap.size w w' :=
  ⟨h.os,h.tape,h.output,h.size,fun k hk=>h.block k hk (by simp)⟩
theorem grown_of_below{w w':World}(h:Below w.heap.size w w')(row:Option Nat):w.grownBy w' row :=
  ⟨h.os,h.tape,h.output,h.size,fun k hk _=>h.block k hk⟩

def Row{α:Type}(enc:World→α→Value→Prop)(w:World)(v:Value)(l:List α):Prop :=
  ∃ (p:Option Addr) (cap:Nat),v = .slice p l.length cap∧l.length≤cap∧cap≤maxLen ∧
    ∀ i (h:i<l.length),∃ b o u,p=some ⟨b,o,none⟩∧w.cell? ⟨b,o+i,none⟩=some u∧enc w l[i] u

def IsInt(_:World)(n:Int)(u:Value):Prop:=u = .int .i64 n
abbrev Ints:=Row IsInt
abbrev Rows:=Row (fun w (l:List Int) v=>Ints w v l)

def Stays{α:Type}(enc:World→α→Value→Prop):Prop:=∀ (B:Nat) (w w':World) (x:α) (u:Value),Below B w w'→w.heap.size≤B→enc w x u→enc w' x u

theorem Row.below{α:Type}{enc:World→α→Value→Prop}(hs:Stays enc){B:Nat}{w w':World}{v:Value}{l:List α}(h:Row enc w v l)(hb:Below B w w')(hB:w.heap.size≤B):Row enc w' v l:=by
  obtain ⟨p,cap,rfl,h1,h2,h3⟩:=h
  refine ⟨p,cap,rfl,h1,h2,fun i hi => ?_⟩
  obtain ⟨b,o,u,hp,hc,he⟩:=h3 i hi
  have hlt:=World.block_lt_of_cell? w _ hc
  exact ⟨b,o,u,hp,(hb.cell (p:=⟨b,o+i,none⟩) (Nat.lt_of_lt_of_le hlt hB)).trans hc,hs B w w' _ _ hb hB he⟩

theorem stays_int:Stays IsInt:=fun _ _ _ _ _ _ _ h=>h
theorem stays_ints:Stays (fun w (l:List Int) v=>Ints w v l):=fun _ _ _ _ _ hb hB h=>Row.below stays_int h hb hB

theorem ints_below{w w':World}{v:Value}{l:List Int}(h:Ints w v l)(hb:Below w.heap.size w w'):Ints w' v l:=Row.below stays_int h hb (Nat.le_refl _)
theorem rows_below{w w':World}{v:Value}{l:List (List Int)}(h:Rows w v l)(hb:Below w.heap.size w w'):Rows w' v l:=Row.below stays_ints h hb (Nat.le_refl _)

theorem Ints.open{w:World}{v:Value}{l:List Int}(h:Ints w v l):∃ (p:Option Addr) (cap:Nat),v = .slice p l.length cap∧l.length≤cap∧cap≤maxLen ∧
    ∀ i (h:i<l.length),∃ b o,p=some ⟨b,o,none⟩∧w.cell? ⟨b,o+i,none⟩=some (.int .i64 l[i]):=by
  obtain ⟨p,cap,rfl,h1,h2,h3⟩:=h
  refine ⟨p,cap,rfl,h1,h2,fun i hi => ?_⟩
  obtain ⟨b,o,u,hp,hc,rfl⟩:=h3 i hi
  exact ⟨b,o,hp,hc⟩

theorem Row.nil{α:Type}{enc:World→α→Value→Prop}(w:World):Row enc w (.slice none 0 0) [] :=
  ⟨none,0,rfl,Nat.le_refl _,by simp [maxLen],fun i h=>by simp at h⟩

theorem Row.sliced{α:Type}{enc:World→α→Value→Prop}{w:World}{p:Option Addr}{n cap:Nat}{l:List α}(h:Row enc w (.slice p n cap) l)(i j:Nat)(hij:i≤j)(hj:j≤l.length) :
    Row enc w (Go.sliced p i j cap 1) ((l.drop i).take (j-i)):=by
  obtain ⟨p',cap',he,h1,h2,h3⟩:=h
  injection he with e1 e2 e3
  subst e1 e2 e3
  have hlen:((l.drop i).take (j-i)).length=j-i:=by simp;omega
  refine ⟨_,_,by unfold Go.sliced;rw [hlen],by rw [hlen];omega,by omega,fun k hk => ?_⟩
  rw [hlen] at hk
  obtain ⟨b,o,u,hp,hc,he⟩:=h3 (i+k) (by omega)
  subst hp
  refine ⟨b,o+i,u,?_,?_,?_⟩
  · rw [if_neg (by omega)]
    simp only [Option.map_some,Nat.mul_one,Addr.add]
    split
    · simp_all
    · rfl
  · rw [Nat.add_assoc,hc]
  · simpa using he

section
variable {P:Program} {ops:Array Oper} {rest:List Oper} {dst:Option Tmp} {ty:TypeId} {pos:String} {af:Array Edge} {a:Act} {w:World} {Q:Exit→Act→World→Prop}

theorem run_slice_lh1{α:Type}{enc:World→α→Value→Prop}{t e:TypeId}{v:Value}{l:List α}{i j:Int}(hv:Row enc w v l)
    (hu:P.underlying t=some (.slice e)) (hs:(P.info? e).map (fun i=>i.size)=some 1) (h0:0≤i) (h1:i≤j) (h2:j≤l.length) :
    ∃ v',(Instr.sliceAt t v (some (.int .i64 i)) (some (.int .i64 j)) none).run P w = .ok v' w∧Row enc w v' ((l.drop i.toNat).take (j.toNat-i.toNat)):=by
  obtain ⟨p,cap,rfl,hlc,hcm,hc⟩:=hv
  obtain ⟨ti,hti,hsz⟩:=Option.map_eq_some_iff.1 hs
  have he:P.elem t=e:=by simp [Program.elem,hu]
  have hr:=run_slice_lh (P:=P) w t p l.length cap (by rw [he];exact hu) .i64 .i64 i j h0 h1 (by omega)
  rw [he] at hr
  refine ⟨_,?_,Row.sliced ⟨p,cap,rfl,hlc,hcm,hc⟩ i.toNat j.toNat (by omega) (by omega)⟩
  rw [run_sliceAt_slice (P:=P) w t _ _ _ _ (by rw [he];exact hu),hr]
  simp [sizeOf,typeInfo,hti,hsz,Result.andThen]

theorem wpL_slice{α:Type}{enc:World→α→Value→Prop}{t e:TypeId}{x lo hi:Operand}{v:Value}{l:List α}{i j:Int}(hv:Row enc w v l)
    (hu:P.underlying t=some (.slice e)) (hs:(P.info? e).map (fun i=>i.size)=some 1)
    (hx:a.eval x=v) (hi1:a.eval lo = .int .i64 i) (hj1:a.eval hi = .int .i64 j) (h0:0≤i) (h1:i≤j) (h2:j≤l.length)
    (h:∀ v' l',l'=((l.drop i.toNat).take (j.toNat-i.toNat))→Row enc w v' l'→wpList P ops Q rest (a.put dst v') w) :
    wpList P ops Q ({ dst:=dst,op := .slice t x (some lo) (some hi) none,type:=ty,pos:=pos,after:=af,guard:=none }::rest) a w:=by
  refine wpList_plain rfl fun K hK => ?_
  obtain ⟨v',hr,hv'⟩:=run_slice_lh1 (P:=P) (t:=t) hv hu hs h0 h1 h2
  unfold Oper.wp
  simp only [execOp,hx,hi1,hj1,Option.map_some,Option.map_none,Sem.run_bind,hr]
  exact hK _ _ (h _ _ rfl hv')

end

end KL
end Go.Proofs
end
section
namespace Go.Proofs
open Go.RowKit
namespace KL

theorem info3:(Tryz.prog.info? 3).map (fun i=>i.size)=some 1:=by kernel_rfl
set_option maxHeartbeats 400000 in
theorem within_any(n lo hi:Int)(w:World) :
    Calls Tryz.prog 89 #[.int .i64 n,.int .i64 lo,.int .i64 hi] w fun e w'=>e = .returned (.bool (decide (lo≤n∧n≤hi)))∧w=w':=by
  by_cases h1:lo≤n <;> by_cases h2:n≤hi
  all_goals
    go_enter Tryz.func89,Tryz.ntmps89
    go_wp2
    go_ret
    simp [h1,h2]

def sumR(l:List Int):Int:=l.foldl (fun a x=>wrap64 (a+x)) 0

theorem sumR_snoc(l:List Int)(k:Nat)(h:k<l.length):sumR (l.take (k+1))=wrap64 (sumR (l.take k)+l[k]):=by
  unfold sumR
  rw [List.take_succ_eq_append_getElem h,List.foldl_append]
  rfl

set_option maxHeartbeats 400000 in
theorem sum_any(v:Value)(l:List Int)(w:World)(hv:Ints w v l) :
    Calls Tryz.prog 98 #[v] w fun e w'=>e = .returned (.int .i64 (sumR l))∧w=w':=by
  obtain ⟨p,cap,rfl,hlc,hcm,hc⟩:=hv.open
  unfold maxLen at hcm
  go_enter Tryz.func98,Tryz.ntmps98
  go_wp2
  go_loop [3,8] (fun s i=>∃ k:Nat,k≤l.length∧i = .int .i64 k∧s = .int .i64 (sumR (l.take k))) (fun _ i=>l.length-(intOf i).toNat)
  case atStart=>exact ⟨0,Nat.zero_le _,rfl,rfl⟩
  case round =>
    obtain ⟨k,hk,rfl,rfl⟩:=hrel
    by_cases hlt:k<l.length
    · obtain ⟨b,o,rfl,hcell⟩:=hc k hlt
      have HS:=hid (sumR_snoc l k hlt)
      clear hc
      go_wp2
      go_round
      case rel=>exact ⟨k+1,by omega,by go_num,by rw [HS.out]⟩
      case measure=>simp [intOf];omega
    · go_wp2
      go_ret
      have:l.take k=l:=List.take_of_length_le (by omega)
      exact ⟨ret_int (by rw [this]),rfl⟩

def cmpI(x y:Int):Int:=if x<y then -1 else if y<x then 1 else 0

set_option maxHeartbeats 400000 in
theorem isNaN_any(x:Int)(w:World):Calls Tryz.prog 145 #[.int .i64 x] w fun e w'=>e = .returned (.bool false)∧w=w':=by
  go_enter Tryz.func145,Tryz.ntmps145
  go_wp2
  go_ret
  simp

set_option maxHeartbeats 400000 in
theorem compare_any(x y:Int)(w:World):Calls Tryz.prog 97 #[.int .i64 x,.int .i64 y] w fun e w'=>e = .returned (.int .i64 (cmpI x y))∧w=w':=by
  by_cases h:x<y
  · have hh:=hid (show cmpI x y = -1 by unfold cmpI;rw [if_pos h])
    go_enter Tryz.func97,Tryz.ntmps97
    go_wp2_with (go_at_call 145;refine (isNaN_any _ _).mono ?_;rintro e w' ⟨rfl,rfl⟩)
    go_ret
    exact ⟨ret_int hh.out.symm,rfl⟩
  · by_cases h2:y<x
    · have hh:=hid (show cmpI x y=1 by unfold cmpI;rw [if_neg h,if_pos h2])
      go_enter Tryz.func97,Tryz.ntmps97
      go_wp2_with (go_at_call 145;refine (isNaN_any _ _).mono ?_;rintro e w' ⟨rfl,rfl⟩)
      go_ret
      exact ⟨ret_int hh.out.symm,rfl⟩
    · have hh:=hid (show cmpI x y=0 by unfold cmpI;rw [if_neg h,if_neg h2])
      go_enter Tryz.func97,Tryz.ntmps97
      go_wp2_with (go_at_call 145;refine (isNaN_any _ _).mono ?_;rintro e w' ⟨rfl,rfl⟩)
      go_ret
      exact ⟨ret_int hh.out.symm,rfl⟩

structure PredOn {α:Type} (P:Program) (g:FuncId) (lb:Array Value) (enc:World→α→Value→Prop) (p:α→Bool) (l:List α) (w:World):Prop where
  enters:∀ args W,(callFunc g args).run P W = .ok (.enter g args) W
  gives:∀ W x u,x∈l→Below w.heap.size w W→enc W x u→Calls P g (#[u]++lb) W (Ret (.bool (p x)) W)

def idxOf{α:Type}(p:α→Bool)(l:List α):Int:=match l.findIdx? p with | some i=>(i:Int) | none => -1

theorem idxOf_at{α:Type}{p:α→Bool}{l:List α}{k:Nat}(hk:k<l.length)(hb:∀ j (h:j<l.length),j<k→p l[j]=false)(hp:p l[k]=true):idxOf p l=k:=by
  have:l.findIdx? p=some k:=by
    rw [List.findIdx?_eq_some_iff_getElem]
    exact ⟨hk,hp,fun j hj=>by simp [hb j (by omega) hj]⟩
  simp [idxOf,this]
theorem idxOf_none{α:Type}{p:α→Bool}{l:List α}(hb:∀ j (h:j<l.length),j<l.length→p l[j]=false):idxOf p l = -1:=by
  have:l.findIdx? p=none:=by
    rw [List.findIdx?_eq_none_iff]
    intro x hx
    obtain ⟨j,hj,rfl⟩:=List.getElem_of_mem hx
    simpa using hb j hj hj
  simp [idxOf,this]

set_option maxHeartbeats 400000 in
theorem indexFunc_ints(v:Value)(l:List Int)(g:FuncId)(lb:Array Value)(p:Int→Bool)(w:World)(hv:Ints w v l)(hp:PredOn Tryz.prog g lb IsInt p l w) :
    Calls Tryz.prog 135 #[v,.func (.func g) #[] lb] w (Ret (.int .i64 (idxOf p l)) w):=by
  obtain ⟨q,cap,rfl,hlc,hcm,hc⟩:=hv.open
  unfold maxLen at hcm
  have eg:=hp.enters
  go_enter Tryz.func135,Tryz.ntmps135
  go_wp2
  go_loopw [8] (fun i wr=>∃ k:Nat,k≤l.length∧i = .int .i64 k∧Below w.heap.size w wr∧∀ j (h:j<l.length),j<k→p l[j]=false) (fun i _=>l.length-(intOf i).toNat)
  case atStart=>exact ⟨0,Nat.zero_le _,rfl,Below.refl _ _,fun j _ h=>by omega⟩
  case round =>
    obtain ⟨k,hk,rfl,hB,hn⟩:=hrel
    have HB:=hid hB
    have HN:=hid hn
    clear hB hn
    by_cases hlt:k<l.length
    · obtain ⟨b,o,rfl,hcell0⟩:=hc k hlt
      have hcell:wr.cell? ⟨b,o+k,none⟩=some (.int .i64 l[k]):=(HB.out.cell (p:=⟨b,o+k,none⟩) (World.block_lt_of_cell? w _ hcell0)).trans hcell0
      clear hc hcell0
      have HG:=hid (hp.gives wr l[k] (.int .i64 l[k]) (by simp) HB.out rfl)
      cases hpk:p l[k] with
      | true =>
        rw [hpk] at HG
        go_wp2_with (refine HG.out.mono ?_;rintro e w1 ⟨rfl,hb1⟩)
        go_ret
        exact ⟨ret_int (idxOf_at hlt HN.out hpk).symm,HB.out.trans (hb1.mono HB.out.size)⟩
      | false =>
        rw [hpk] at HG
        go_wp2_with (refine HG.out.mono ?_;rintro e w1 ⟨rfl,hb1⟩)
        go_roundw
        case rel => 
          refine ⟨k+1,by omega,by go_num,HB.out.trans (hb1.mono HB.out.size),fun j hj hjk => ?_⟩
          by_cases hj2:j=k
          · subst hj2;exact hpk
          · exact HN.out j hj (by omega)
        case measure=>simp [intOf];omega
    · go_wp2
      go_ret
      exact ⟨ret_int (idxOf_none fun j hj _=>HN.out j hj (by omega)).symm,HB.out⟩
end KL
end Go.Proofs
end
section
namespace Go.Proofs
open Go.RowKit
namespace KL

theorem Rows.open{w:World}{v:Value}{l:List (List Int)}(h:Rows w v l):∃ (p:Option Addr) (cap:Nat),v = .slice p l.length cap∧l.length≤cap∧cap≤maxLen ∧
    ∀ i (h:i<l.length),∃ b o u,p=some ⟨b,o,none⟩∧w.cell? ⟨b,o+i,none⟩=some u∧Ints w u l[i]:=h

set_option maxHeartbeats 400000 in
theorem indexFunc_rows(v:Value)(l:List (List Int))(g:FuncId)(lb:Array Value)(p:List Int→Bool)(w:World)(hv:Rows w v l)(hp:PredOn Tryz.prog g lb (fun w (l:List Int) v=>Ints w v l) p l w) :
    Calls Tryz.prog 152 #[v,.func (.func g) #[] lb] w (Ret (.int .i64 (idxOf p l)) w):=by
  obtain ⟨q,cap,rfl,hlc,hcm,hc⟩:=hv.open
  unfold maxLen at hcm
  have eg:=hp.enters
  go_enter Tryz.func152,Tryz.ntmps152
  go_wp2
  go_loopw [8] (fun i wr=>∃ k:Nat,k≤l.length∧i = .int .i64 k∧Below w.heap.size w wr∧∀ j (h:j<l.length),j<k→p l[j]=false) (fun i _=>l.length-(intOf i).toNat)
  case atStart=>exact ⟨0,Nat.zero_le _,rfl,Below.refl _ _,fun j _ h=>by omega⟩
  case round =>
    obtain ⟨k,hk,rfl,hB,hn⟩:=hrel
    have HB:=hid hB
    have HN:=hid hn
    clear hB hn
    by_cases hlt:k<l.length
    · obtain ⟨b,o,u,rfl,hcell0,hu0⟩:=hc k hlt
      have hcell:wr.cell? ⟨b,o+k,none⟩=some u:=(HB.out.cell (p:=⟨b,o+k,none⟩) (World.block_lt_of_cell? w _ hcell0)).trans hcell0
      clear hc hcell0
      have HG:=hid (hp.gives wr l[k] u (by simp) HB.out (ints_below hu0 HB.out))
      cases hpk:p l[k] with
      | true =>
        rw [hpk] at HG
        go_wp2_with (refine HG.out.mono ?_;rintro e w1 ⟨rfl,hb1⟩)
        go_ret
        exact ⟨ret_int (idxOf_at hlt HN.out hpk).symm,HB.out.trans (hb1.mono HB.out.size)⟩
      | false =>
        rw [hpk] at HG
        go_wp2_with (refine HG.out.mono ?_;rintro e w1 ⟨rfl,hb1⟩)
        go_roundw
        case rel => 
          refine ⟨k+1,by omega,by go_num,HB.out.trans (hb1.mono HB.out.size),fun j hj hjk => ?_⟩
          by_cases hj2:j=k
          · subst hj2;exact hpk
          · exact HN.out j hj (by omega)
        case measure=>simp [intOf];omega
    · go_wp2
      go_ret
      exact ⟨ret_int (idxOf_none fun j hj _=>HN.out j hj (by omega)).symm,HB.out⟩

theorem idxOf_any{α:Type}(p:α→Bool)(l:List α):decide (0≤idxOf p l)=l.any p:=by
  unfold idxOf
  cases h:l.findIdx? p with
  | none =>
    rw [List.findIdx?_eq_none_iff] at h
    have:l.any p=false:=by rw [List.any_eq_false];intro x hx;simp [h x hx]
    simp [this]
  | some i =>
    rw [List.findIdx?_eq_some_iff_getElem] at h
    obtain ⟨hi,hp,_⟩:=h
    have:l.any p=true:=List.any_eq_true.2 ⟨l[i],by simp,hp⟩
    simp [this]

set_option maxHeartbeats 400000 in
theorem containsFunc_ints(v:Value)(l:List (Int))(g:FuncId)(lb:Array Value)(p:Int→Bool)(w:World)(hv:Ints w v l)(hp:PredOn Tryz.prog g lb IsInt p l w) :
    Calls Tryz.prog 68 #[v,.func (.func g) #[] lb] w (Ret (.bool (l.any p)) w):=by
  have HI:=hid (indexFunc_ints v l g lb p w hv hp)
  have HA:=hid (idxOf_any p l)
  clear hv hp
  go_enter Tryz.func68,Tryz.ntmps68
  go_wp2_with (go_at_call 135;refine HI.out.mono ?_;rintro e w1 ⟨rfl,hb1⟩)
  go_ret
  exact ⟨ret_bool HA.out,hb1⟩

theorem allints_pred(g:FuncId)(lb:Array Value)(p:Int→Bool)(l:List (Int))(w:World)(hp:PredOn Tryz.prog g lb IsInt p l w) :
    PredOn Tryz.prog 141 #[.pointer (some ⟨w.heap.size,0,none⟩)] IsInt (fun x => !p x) l (w.alloc (.cells #[.func (.func g) #[] lb] 98)):=by
  refine ⟨enters_of Tryz.func141 (by kernel_rfl) rfl,fun W x u hx hb henc => ?_⟩
  have hc0:=(bcell hb).1 w.heap.size 0 (by simp)
  have hc:W.cell? ⟨w.heap.size,0,none⟩=some (.func (.func g) #[] lb):=by
    rw [hc0];simp
  clear hc0
  have eg:=hp.enters
  have HG:=hid (hp.gives W x u hx (((Below.refl _ w).alloc (Nat.le_refl _) _).trans (hb.mono (by simp))) henc)
  clear hb henc hp
  go_enter Tryz.func141,Tryz.ntmps141
  go_wp2_with (refine HG.out.mono ?_;rintro e w1 ⟨rfl,hb1⟩)
  go_ret
  exact ⟨rfl,hb1⟩

theorem any_not_not{α:Type}(p:α→Bool)(l:List α):(!l.any (fun x => !p x))=l.all p:=List.all_eq_not_any_not.symm

set_option maxHeartbeats 400000 in
theorem all_ints(v:Value)(l:List (Int))(g:FuncId)(lb:Array Value)(p:Int→Bool)(w:World)(hv:Ints w v l)(hp:PredOn Tryz.prog g lb IsInt p l w) :
    Calls Tryz.prog 90 #[v,.func (.func g) #[] lb] w (Ret (.bool (l.all p)) w):=by
  have hB:=(Below.refl w.heap.size w).alloc (Nat.le_refl _) (.cells #[.func (.func g) #[] lb] 98)
  have HI:=hid (containsFunc_ints v l 141 _ _ _ (ints_below hv hB) (allints_pred g lb p l w hp))
  have HA:=hid (any_not_not p l)
  clear hv hp
  go_enter Tryz.func90,Tryz.ntmps90
  go_wp2_with (go_at_call 68;refine HI.out.mono ?_;rintro e w1 ⟨rfl,hb1⟩)
  go_ret
  exact ⟨ret_bool HA.out,hB.trans (hb1.mono (by simp))⟩

set_option maxHeartbeats 400000 in
theorem containsFunc_rows(v:Value)(l:List (List Int))(g:FuncId)(lb:Array Value)(p:List Int→Bool)(w:World)(hv:Rows w v l)(hp:PredOn Tryz.prog g lb (fun w (l:List Int) v=>Ints w v l) p l w) :
    Calls Tryz.prog 122 #[v,.func (.func g) #[] lb] w (Ret (.bool (l.any p)) w):=by
  have HI:=hid (indexFunc_rows v l g lb p w hv hp)
  have HA:=hid (idxOf_any p l)
  clear hv hp
  go_enter Tryz.func122,Tryz.ntmps122
  go_wp2_with (go_at_call 152;refine HI.out.mono ?_;rintro e w1 ⟨rfl,hb1⟩)
  go_ret
  exact ⟨ret_bool HA.out,hb1⟩

theorem allrows_pred(g:FuncId)(lb:Array Value)(p:List Int→Bool)(l:List (List Int))(w:World)(hp:PredOn Tryz.prog g lb (fun w (l:List Int) v=>Ints w v l) p l w) :
    PredOn Tryz.prog 151 #[.pointer (some ⟨w.heap.size,0,none⟩)] (fun w (l:List Int) v=>Ints w v l) (fun x => !p x) l (w.alloc (.cells #[.func (.func g) #[] lb] 93)):=by
  refine ⟨enters_of Tryz.func151 (by kernel_rfl) rfl,fun W x u hx hb henc => ?_⟩
  have hc0:=(bcell hb).1 w.heap.size 0 (by simp)
  have hc:W.cell? ⟨w.heap.size,0,none⟩=some (.func (.func g) #[] lb):=by
    rw [hc0];simp
  clear hc0
  have eg:=hp.enters
  have HG:=hid (hp.gives W x u hx (((Below.refl _ w).alloc (Nat.le_refl _) _).trans (hb.mono (by simp))) henc)
  clear hb henc hp
  go_enter Tryz.func151,Tryz.ntmps151
  go_wp2_with (refine HG.out.mono ?_;rintro e w1 ⟨rfl,hb1⟩)
  go_ret
  exact ⟨rfl,hb1⟩

set_option maxHeartbeats 400000 in
theorem all_rows(v:Value)(l:List (List Int))(g:FuncId)(lb:Array Value)(p:List Int→Bool)(w:World)(hv:Rows w v l)(hp:PredOn Tryz.prog g lb (fun w (l:List Int) v=>Ints w v l) p l w) :
    Calls Tryz.prog 117 #[v,.func (.func g) #[] lb] w (Ret (.bool (l.all p)) w):=by
  have hB:=(Below.refl w.heap.size w).alloc (Nat.le_refl _) (.cells #[.func (.func g) #[] lb] 93)
  have HI:=hid (containsFunc_rows v l 151 _ _ _ (rows_below hv hB) (allrows_pred g lb p l w hp))
  have HA:=hid (any_not_not p l)
  clear hv hp
  go_enter Tryz.func117,Tryz.ntmps117
  go_wp2_with (go_at_call 122;refine HI.out.mono ?_;rintro e w1 ⟨rfl,hb1⟩)
  go_ret
  exact ⟨ret_bool HA.out,hB.trans (hb1.mono (by simp))⟩

end KL
end Go.Proofs
end
section
namespace Go.Proofs
open Go.Shelf
def Tryz.lays125_ren:Go.Shelf.Ren:=⟨fun | 125=>140 | 128=>173 | 129=>174 | n=>n,fun | 46=>169 | 3=>3 | 51=>130 | 53=>188 | 4=>4 | 5=>5 | 9=>9 | n=>n,fun | n=>n⟩
theorem Tryz.lays125:Go.Proofs.Lays.n125 Tryz.prog Tryz.lays125_ren:={
  mixed:=by kernel_rfl
  f125:=Tryz.func140.trans (congrArg some (by kernel_rfl))
  f128:=Tryz.func173.trans (congrArg some (by kernel_rfl))
  f129:=Tryz.func174.trans (congrArg some (by kernel_rfl))
  t3:=Tryz.underlying3
  a3:=Tryz.isAgg3
  z3:=Tryz.sizeOf3
  v3:=Tryz.zeroValue3
  t4:=Tryz.underlying4
  a4:=Tryz.isAgg4
  z4:=Tryz.sizeOf4
  v4:=Tryz.zeroValue4
  t5:=Tryz.underlying5
  a5:=Tryz.isAgg5
  z5:=Tryz.sizeOf5
  v5:=Tryz.zeroValue5
  t9:=Tryz.underlying9
  a9:=Tryz.isAgg9
  z9:=Tryz.sizeOf9
  v9:=Tryz.zeroValue9
  t46:=Tryz.underlying169
  a46:=Tryz.isAgg169
  z46:=Tryz.sizeOf169
  v46:=Tryz.zeroValue169
  t51:=Tryz.underlying130
  a51:=Tryz.isAgg130
  z51:=Tryz.sizeOf130
  v51:=Tryz.zeroValue130
  t53:=Tryz.underlying188
  a53:=Tryz.isAgg188
  z53:=Tryz.sizeOf188
  v53:=Tryz.zeroValue188 }
theorem Tryz.bits_Len(x:Int)(w:World)(h0:0≤x)(h1:x≤18446744073709551615) :
    Calls Tryz.prog 140 #[.int .u64 x] w fun e w'=>e = .returned (.int .i64 (Lib.bitLen x.toNat))∧w'=w:=Any.bits_Len Tryz.lays125 x w h0 h1
def Tryz.lays189_ren:Go.Shelf.Ren:=⟨fun | 189=>84 | 125=>140 | 257=>139 | 128=>173 | 129=>174 | 294=>164 | 295=>165 | 296=>166 | 297=>167 | 298=>168 | 299=>169 | 216=>170 | 300=>171 | 301=>172 | 328=>189 | 329=>190 | 330=>191 | 331=>192 | 332=>193 | 215=>145 | 343=>202 | n=>n,fun | 28=>22 | 3=>3 | 46=>169 | 0=>0 | 51=>130 | 53=>188 | 4=>4 | 183=>181 | 182=>180 | 131=>113 | 5=>5 | 9=>9 | 218=>200 | 222=>116 | 228=>209 | 229=>210 | n=>n,fun | n=>n⟩
theorem Tryz.lays189:Go.Proofs.Lays.n189 Tryz.prog Tryz.lays189_ren:={
  mixed:=by kernel_rfl
  f125:=Tryz.func140.trans (congrArg some (by kernel_rfl))
  f128:=Tryz.func173.trans (congrArg some (by kernel_rfl))
  f129:=Tryz.func174.trans (congrArg some (by kernel_rfl))
  f189:=Tryz.func84.trans (congrArg some (by kernel_rfl))
  f215:=Tryz.func145.trans (congrArg some (by kernel_rfl))
  f216:=Tryz.func170.trans (congrArg some (by kernel_rfl))
  f257:=Tryz.func139.trans (congrArg some (by kernel_rfl))
  f294:=Tryz.func164.trans (congrArg some (by kernel_rfl))
  f295:=Tryz.func165.trans (congrArg some (by kernel_rfl))
  f296:=Tryz.func166.trans (congrArg some (by kernel_rfl))
  f297:=Tryz.func167.trans (congrArg some (by kernel_rfl))
  f298:=Tryz.func168.trans (congrArg some (by kernel_rfl))
  f299:=Tryz.func169.trans (congrArg some (by kernel_rfl))
  f300:=Tryz.func171.trans (congrArg some (by kernel_rfl))
  f301:=Tryz.func172.trans (congrArg some (by kernel_rfl))
  f328:=Tryz.func189.trans (congrArg some (by kernel_rfl))
  f329:=Tryz.func190.trans (congrArg some (by kernel_rfl))
  f330:=Tryz.func191.trans (congrArg some (by kernel_rfl))
  f331:=Tryz.func192.trans (congrArg some (by kernel_rfl))
  f332:=Tryz.func193.trans (congrArg some (by kernel_rfl))
  f343:=Tryz.func202.trans (congrArg some (by kernel_rfl))
  t0:=Tryz.underlying0
  a0:=Tryz.isAgg0
  z0:=Tryz.sizeOf0
  v0:=Tryz.zeroValue0
  t3:=Tryz.underlying3
  a3:=Tryz.isAgg3
  z3:=Tryz.sizeOf3
  v3:=Tryz.zeroValue3
  t4:=Tryz.underlying4
  a4:=Tryz.isAgg4
  z4:=Tryz.sizeOf4
  v4:=Tryz.zeroValue4
  t5:=Tryz.underlying5
  a5:=Tryz.isAgg5
  z5:=Tryz.sizeOf5
  v5:=Tryz.zeroValue5
  t9:=Tryz.underlying9
  a9:=Tryz.isAgg9
  z9:=Tryz.sizeOf9
  v9:=Tryz.zeroValue9
  t28:=Tryz.underlying22
  a28:=Tryz.isAgg22
  z28:=Tryz.sizeOf22
  v28:=Tryz.zeroValue22
  t46:=Tryz.underlying169
  a46:=Tryz.isAgg169
  z46:=Tryz.sizeOf169
  v46:=Tryz.zeroValue169
  t51:=Tryz.underlying130
  a51:=Tryz.isAgg130
  z51:=Tryz.sizeOf130
  v51:=Tryz.zeroValue130
  t53:=Tryz.underlying188
  a53:=Tryz.isAgg188
  z53:=Tryz.sizeOf188
  v53:=Tryz.zeroValue188
  t131:=Tryz.underlying113
  a131:=Tryz.isAgg113
  z131:=Tryz.sizeOf113
  v131:=Tryz.zeroValue113
  t182:=Tryz.underlying180
  a182:=Tryz.isAgg180
  z182:=Tryz.sizeOf180
  v182:=Tryz.zeroValue180
  t183:=Tryz.underlying181
  a183:=Tryz.isAgg181
  z183:=Tryz.sizeOf181
  v183:=Tryz.zeroValue181
  t218:=Tryz.underlying200
  a218:=Tryz.isAgg200
  z218:=Tryz.sizeOf200
  v218:=Tryz.zeroValue200
  t222:=Tryz.underlying116
  a222:=Tryz.isAgg116
  z222:=Tryz.sizeOf116
  v222:=Tryz.zeroValue116
  t228:=Tryz.underlying209
  a228:=Tryz.isAgg209
  z228:=Tryz.sizeOf209
  v228:=Tryz.zeroValue209
  t229:=Tryz.underlying210
  a229:=Tryz.isAgg210
  z229:=Tryz.sizeOf210
  v229:=Tryz.zeroValue210 }
open Go.Sort Go.RowKit in
theorem Tryz.slices_Sort_int(blk off cap:Nat)(zs:List Int)(w:World)(hH:Holds (Value.int .i64) w blk off zs.toArray)(hblk:blk<w.heap.size)(hsz:zs.length<4611686018427387904) :
    Calls Tryz.prog 84 #[.slice (some ⟨blk,off,none⟩) zs.length cap] w fun e w' =>
      e = .returned (.tuple #[])∧∃ n os,w'=grow (putRow (Value.int .i64) (Sort.ahead w n) blk off (zs.mergeSort fun x y=>decide (x≤y)).toArray) os:=Any.slices_Sort_int Tryz.lays189 blk off cap zs w hH hblk hsz
def Tryz.laysNm215_ren:Go.Shelf.Ren:=⟨fun | 15=>150 | n=>n,fun | 22=>22 | 3=>3 | 4=>4 | n=>n,fun | n=>n⟩
theorem Tryz.laysNm215:Go.Proofs.Lays2.n15 Tryz.prog Tryz.laysNm215_ren:={
  mixed:=by kernel_rfl
  f15:=Tryz.func150.trans (congrArg some (by kernel_rfl))
  t3:=Tryz.underlying3
  a3:=Tryz.isAgg3
  z3:=Tryz.sizeOf3
  v3:=Tryz.zeroValue3
  t4:=Tryz.underlying4
  a4:=Tryz.isAgg4
  z4:=Tryz.sizeOf4
  v4:=Tryz.zeroValue4
  t22:=Tryz.underlying22
  a22:=Tryz.isAgg22
  z22:=Tryz.sizeOf22
  v22:=Tryz.zeroValue22
  i3:=by kernel_rfl }
open Go.RowKit Go.Lib in
theorem Tryz.slices_Clone_int(b off n c:Nat)(zs:List Int)(w:World)(hz:n≤zs.length)(hbig:n*8≤140737488355328)(hc:∀ j,j<zs.length→w.cell? ⟨b,off+j,none⟩=some (.int .i64 (zs.getD j 0))) :
    Calls Tryz.prog 150 #[.slice (some ⟨b,off,none⟩) n c] w fun e w'=>∃ v',e = .returned v'∧w'.ownsRow w.heap.size 3 1 v' n ((zs.take n).map (Value.int .i64))∧v' ≠ .slice none 0 0∧Below w.heap.size w w':=Any.slices_Clone_int Tryz.laysNm215 b off n c zs w hz hbig hc
open Go.RowKit Go.Lib in
theorem Tryz.slices_Clone_int_nil(n c:Nat)(w:World) :
    Calls Tryz.prog 150 #[.slice none n c] w fun e w'=>e = .returned (.slice none 0 0)∧w'=w:=Any.slices_Clone_int_nil Tryz.laysNm215 n c w
open Go.RowKit Go.Lib in
theorem Tryz.slices_Clone_int_zero(a:Addr)(c:Nat)(w:World) :
    Calls Tryz.prog 150 #[.slice (some a) 0 c] w fun e w'=>∃ v',e = .returned v'∧w'.ownsRow w.heap.size 3 1 v' 0 []∧v' ≠ .slice none 0 0∧Below w.heap.size w w':=Any.slices_Clone_int_zero Tryz.laysNm215 a c w
open Go.RowKit Go.Sort in
theorem Tryz.slices_Sort_int_none(p:Option Addr)(cap:Nat)(w:World) :
    Calls Tryz.prog 84 #[.slice p 0 cap] w fun e w'=>e = .returned (.tuple #[])∧w'=w:=Any.slices_Sort_int_none Tryz.lays189 p cap w
def Tryz.layDel_ren:Go.Shelf.Ren:=⟨fun | 10=>153 | 6=>135 | n=>n,fun | 22=>22 | 23=>3 | 25=>98 | 3=>3 | 4=>4 | 0=>0 | n=>n,fun | n=>n⟩
theorem Tryz.layDel:Go.Proofs.SlLaysH.n10 Tryz.prog Tryz.layDel_ren:={
  mixed:=by kernel_rfl
  f6:=⟨Tryz.f135.name,by decide,Tryz.func135.trans (congrArg some (by kernel_rfl))⟩
  f10:=⟨Tryz.f153.name,by decide,Tryz.func153.trans (congrArg some (by kernel_rfl))⟩
  t0:=Tryz.underlying0
  a0:=Tryz.isAgg0
  z0:=Tryz.sizeOf0
  v0:=Tryz.zeroValue0
  t3:=Tryz.underlying3
  a3:=Tryz.isAgg3
  z3:=Tryz.sizeOf3
  v3:=Tryz.zeroValue3
  t4:=Tryz.underlying4
  a4:=Tryz.isAgg4
  z4:=Tryz.sizeOf4
  v4:=Tryz.zeroValue4
  t22:=Tryz.underlying22
  a22:=Tryz.isAgg22
  z22:=Tryz.sizeOf22
  v22:=Tryz.zeroValue22
  a23:=Tryz.isAgg3
  z23:=Tryz.sizeOf3
  t25:=Tryz.underlying98
  a25:=Tryz.isAgg98
  z25:=Tryz.sizeOf98
  v25:=Tryz.zeroValue98 }
end Go.Proofs
end
section
namespace Go.Proofs
open Go.RowKit Go.Lib Go.Sort
namespace KL

def OwnI(w:World)(base:Nat)(v:Value)(l:List Int):Prop:=w.ownsRow base 3 1 v l.length (l.map (Value.int .i64))

theorem OwnI.ints{w:World}{base:Nat}{v:Value}{l:List Int}(h:OwnI w base v l):Ints w v l:=by
  have hl:=h.1
  rcases h.2 with ⟨rfl,h0⟩ | ⟨g,cap,cur,rfl,hb,hg,hn,hm,hs,ht⟩
  · have:l=[]:=List.eq_nil_of_length_eq_zero h0
    subst this
    exact Row.nil w
  · refine ⟨_,cap,rfl,hn,hm,fun i hi=>⟨g,0,_,rfl,?_,rfl⟩⟩
    have:=World.ownsRow.cellAt (g:=g) (cap:=cap) h i (by omega)
    rw [Nat.zero_add,this]
    simp

theorem OwnI.later{w w':World}{base base':Nat}{v:Value}{l:List Int}(h:OwnI w base v l)(hb:Below w.heap.size w w')(hB:base'≤base):OwnI w' base' v l:=by
  refine ⟨h.1,?_⟩
  rcases h.2 with hn | ⟨g,cap,cur,hv,hg,hh,r⟩
  · exact Or.inl hn
  · exact Or.inr ⟨g,cap,cur,hv,Nat.le_trans hB hg,(hb.block g (lt_of_block hh)).trans hh,r⟩

theorem OwnI.form{w:World}{base:Nat}{v:Value}{l:List Int}(h:OwnI w base v l):∃ p cap,v = .slice p l.length cap:=by
  rcases h.2 with ⟨rfl,h0⟩ | ⟨g,cap,cur,rfl,_⟩
  · exact ⟨none,0,by rw [h0]⟩
  · exact ⟨_,_,rfl⟩

def RetOwn(l:List Int)(w:World)(e:Ending)(w':World):Prop:=∃ p n cap,e = .returned (.slice p n cap)∧n=l.length∧OwnI w' w.heap.size (.slice p n cap) l∧Below w.heap.size w w'
theorem RetOwn.of{l:List Int}{w w':World}{v:Value}(h:OwnI w' w.heap.size v l)(hb:Below w.heap.size w w'):RetOwn l w (.returned v) w':=by
  obtain ⟨p,cap,rfl⟩:=h.form
  exact ⟨p,_,cap,rfl,rfl,h,hb⟩

theorem clone_own(v:Value)(l:List Int)(w:World)(hv:Ints w v l)(hlen:l.length≤1000):Calls Tryz.prog 150 #[v] w (RetOwn l w):=by
  obtain ⟨p,cap,rfl,hlc,hcm,hc⟩:=hv.open
  cases p with
  | none =>
    have h0:l=[]:=by
      cases l with
      | nil=>rfl
      | cons x r=>obtain ⟨b,o,h,_⟩:=hc 0 (by simp);cases h
    subst h0
    refine (Tryz.slices_Clone_int_nil _ _ w).mono ?_
    rintro e w' ⟨rfl,rfl⟩
    exact RetOwn.of (World.ownsRow_nil _ _ _ _) (Below.refl _ _)
  | some a =>
    cases l with
    | nil =>
      refine (Tryz.slices_Clone_int_zero a _ w).mono ?_
      rintro e w' ⟨v',rfl,h1,_,h2⟩
      exact RetOwn.of h1 h2
    | cons x r =>
      obtain ⟨b,o,h,_⟩:=hc 0 (by simp)
      cases h
      refine (Tryz.slices_Clone_int b o (x::r).length cap (x::r) w (Nat.le_refl _) (by omega) (fun j hj => ?_)).mono ?_
      · obtain ⟨b',o',h,hcell⟩:=hc j hj
        cases h
        rw [hcell,List.getD_eq_getElem?_getD,List.getElem?_eq_getElem hj]
        rfl
      · rintro e w' ⟨v',rfl,h1,_,h2⟩
        rw [List.take_length] at h1
        exact RetOwn.of h1 h2

def leB:Int→Int→Bool:=fun x y=>decide (x≤y)

theorem sort_own(base:Nat)(v:Value)(l:List Int)(w:World)(hv:OwnI w base v l)(hlen:l.length≤1000) :
    Calls Tryz.prog 84 #[v] w fun e w'=>e = .returned (.tuple #[])∧OwnI w' base v (l.mergeSort leB)∧w.grownBy w' v.ownBlock:=by
  have hown:=hv
  rcases hv.2 with ⟨rfl,h0⟩ | ⟨g,cap,cur,rfl,hb,hg,hn,hm,hs,ht⟩
  · have:l=[]:=List.eq_nil_of_length_eq_zero h0
    subst this
    refine (Tryz.slices_Sort_int_none none 0 w).mono ?_
    rintro e w' ⟨rfl,rfl⟩
    exact ⟨rfl,by simpa using hown,World.grownBy.refl _ _⟩
  · have hlt:=lt_of_block hg
    refine (Tryz.slices_Sort_int g 0 cap l w (holds_of_blockI hg (by simpa using ht)) hlt (by omega)).mono ?_
    rintro e w' ⟨rfl,n,os,rfl⟩
    refine ⟨rfl,?_,grownBy_sortedI _⟩
    have hl:(l.mergeSort leB).length=l.length:=List.length_mergeSort l
    unfold OwnI
    rw [hl]
    exact ownsRow_sortedI hl hb hg hn hm hs

structure PureI (P:Program) (g:FuncId) (p:Int→Bool):Prop where
  enters:∀ args W,(callFunc g args).run P W = .ok (.enter g args) W
  gives:∀ W x,Calls P g #[.int .i64 x] W fun e w'=>e = .returned (.bool (p x))∧W=w'

theorem delete_own(base:Nat)(v:Value)(l:List Int)(g:FuncId)(p:Int→Bool)(w:World)(hp:PureI Tryz.prog g p)(hv:OwnI w base v l)(hlen:l.length≤1000) :
    Calls Tryz.prog 153 #[v,.func (.func g) #[] #[]] w fun e w'=>∃ p' n' cap',e = .returned (.slice p' n' cap')∧n'=(l.filter fun x => !p x).length∧OwnI w' base (.slice p' n' cap') (l.filter fun x => !p x)∧w.grownBy w' v.ownBlock∧((Value.slice p' n' cap').ownBlock=v.ownBlock):=by
  have hown:=hv
  rcases hv.2 with ⟨rfl,h0⟩ | ⟨b,cap,cur,rfl,hb,hg,hn,hm,hs,ht⟩
  · have:l=[]:=List.eq_nil_of_length_eq_zero h0
    subst this
    have eg:=hp.enters
    have HI:=hid (indexFunc_ints (.slice none 0 0) [] g #[] p w (Row.nil w) ⟨hp.enters,fun W x u hx _ _=>by simp at hx⟩)
    have HX:=hid (show idxOf p [] = -1 from rfl)
    rw [HX.out] at HI
    clear hp hv hown
    go_enter Tryz.func153,Tryz.ntmps153
    go_wp2_with (go_at_call 135;refine HI.out.mono ?_;rintro e w1 ⟨rfl,hb1⟩)
    go_ret
    exact ⟨_,_,_,rfl,rfl,World.ownsRow_nil _ _ _ _,grown_of_below hb1 _,rfl⟩
  · have hlt:=lt_of_block hg
    refine (AnyE.slices_DeleteFunc Tryz.layDel (Value.int .i64) (fun _=>rfl) p g #[] hp.enters 0 Tryz.zeroValue3 b 0 cap l.toArray w
      (fun W x _=>(hp.gives W x).mono fun e w' ⟨he,hw⟩=>⟨he,0,hw.symm⟩) (fun n os dk x _=>(hp.gives _ x).mono fun e w' ⟨he,hw⟩=>⟨he,0,hw.symm⟩)
      (holds_of_blockI hg (by simpa using ht)) (by simp;omega) (by simpa using hn)).mono ?_
    rintro e w' ⟨rfl,q,rfl⟩
    have hfl:(l.filter fun x => !p x).length≤l.length:=List.length_filter_le _ _
    refine ⟨_,_,_,rfl,rfl,?_,?_,rfl⟩
    · have:=ownsRow_putRow (enc:=Value.int .i64) (q:=q) (k:=(l.filter fun x => !p x).length) (ys:=(l.filter fun x => !p x)++List.replicate (l.length-(l.filter fun x => !p x).length) 0) hown (by simp;omega) hfl
      unfold OwnI
      simpa using this
    · exact grownBy_sortedI (os := #[]) (n:=q) (g:=b) (w:=w) (((l.filter fun x => !p x)++List.replicate (l.length-(l.filter fun x => !p x).length) 0).toArray)

def nz(p:Int):Bool:=decide (p=0)

theorem pure154:PureI Tryz.prog 154 nz:=by
  refine ⟨enters_of Tryz.func154 (by kernel_rfl) rfl,fun W x => ?_⟩
  by_cases h:x=0
  · have hh:=hid (show nz x=true by simp [nz,h])
    have hx:(x == 0)=true:=by simp [h]
    have h':=hid h
    clear h
    go_enter Tryz.func154,Tryz.ntmps154
    go_wp2
    go_ret
    exact ⟨ret_bool hh.out.symm,rfl⟩
  · have hh:=hid (show nz x=false by simp [nz,h])
    have hx:(x == 0)=false:=by simp [h]
    have h':=hid h
    clear h
    go_enter Tryz.func154,Tryz.ntmps154
    go_wp2
    go_ret
    exact ⟨ret_bool hh.out.symm,rfl⟩

def placesOf(race:List Int):List Int:=(race.filter fun x => !nz x).mergeSort leB

def clashLoop:Option Int→Int→List Int→Option Int
  | _,free,[]=>some free
  | prev,free,p::r=>if prev=some p then clashLoop (some p) (free+1) r else if p<free then none else clashLoop (some p) (p+1) r

def clashR(race:List Int):Bool:=match clashLoop none 1 (placesOf race) with | none=>true | some f=>decide (61<f)

def prevOf(l:List Int)(k:Nat):Option Int:=if k=0 then none else l[k-1]?

theorem clashLoop_step(l:List Int)(k:Nat)(h:k<l.length)(free:Int) :
    clashLoop (prevOf l k) free (l.drop k)=if prevOf l k=some l[k] then clashLoop (prevOf l (k+1)) (free+1) (l.drop (k+1)) else if l[k]<free then none else clashLoop (prevOf l (k+1)) (l[k]+1) (l.drop (k+1)):=by
  have hp:prevOf l (k+1)=some l[k]:=by simp [prevOf,h]
  rw [hp,List.drop_eq_getElem_cons h]
  rfl

theorem placesOf_bd(race:List Int)(hr:∀ x∈race,0≤x∧x≤1000):(placesOf race).length≤race.length∧∀ i (h:i<(placesOf race).length),0≤(placesOf race)[i]∧(placesOf race)[i]≤1000:=by
  unfold placesOf
  refine ⟨by rw [List.length_mergeSort];exact List.length_filter_le _ _,fun i h => ?_⟩
  have hm:=List.getElem_mem h
  rw [List.mem_mergeSort,List.mem_filter] at hm
  exact hr _ hm.1

set_option maxHeartbeats 1000000 in
set_option maxRecDepth 100000 in
theorem clash_any(v:Value)(race:List Int)(w:World)(hv:Ints w v race)(hlen:race.length≤1000)(hr:∀ x∈race,0≤x∧x≤1000) :
    Calls Tryz.prog 123 #[v] w (Ret (.bool (clashR race)) w):=by
  have HC:=hid (clone_own v race w hv hlen)
  obtain ⟨hpl,hpb⟩:=placesOf_bd race hr
  have hfl:(race.filter fun x => !nz x).length≤race.length:=List.length_filter_le _ _
  have HR:=hid (show clashR race=match clashLoop none 1 (placesOf race) with | none=>true | some f=>decide (61<f) from rfl)
  have HPO:=hid (show placesOf race=(race.filter fun x => !nz x).mergeSort leB from rfl)
  generalize hpo:placesOf race=l at *
  have HPO2:=hid hpo
  clear hpo hv hr
  go_enter Tryz.func123,Tryz.ntmps123
  go_wp2_with (go_at_call 150;refine HC.out.mono ?_;rintro e w1 ⟨p1,n1,c1,rfl,hn1,ho1,hb1⟩;have HO1:=hid ho1;have HB1:=hid hb1;clear ho1 hb1 hn1)
  go_wp2_with (go_at_call 153;refine (delete_own _ _ _ _ _ _ pure154 HO1.out hlen).mono ?_;rintro e w2 ⟨p2,n2,c2,rfl,hn2,ho2,hg2,hv2⟩;have HN2:=hid hn2;have HO2:=hid ho2;have HG2:=hid hg2;have HV2:=hid hv2;clear ho2 hg2 hv2 hn2)
  go_wp2_with (go_at_call 84;refine (sort_own _ _ _ _ HO2.out (by omega)).mono ?_;rintro e w3 ⟨rfl,ho3,hg3⟩;have HO3:=hid ho3;have HG3:=hid hg3;clear ho3 hg3)
  have hl:l.length=n2:=by rw [HN2.out,HPO.out,List.length_mergeSort]
  have h3:=HO3.out
  rw [← HPO.out] at h3
  have hB3:Below w.heap.size w w3:=by
    have hk:=World.ownsRow.lt HO1.out
    refine (HB1.out.grown HG2.out HB1.out.size (fun k hk'=>(hk k hk').1)).grown HG3.out (Nat.le_trans HB1.out.size HG2.out.size) (fun k hk' => ?_)
    rw [HV2.out] at hk'
    exact (hk k hk').1
  obtain ⟨p,cap,hpe,hlc,hcm,hc⟩:=h3.ints.open
  injection hpe with e1 e2 e3
  subst e1 e3
  have hl1:l.length≤n2:=by omega
  have hl2:n2≤l.length:=by omega
  unfold maxLen at hcm
  clear hl e2 h3 HPO HO1 HO2 HO3 HG2 HG3 HV2 HB1 HN2 HC
  have HB:=hid hB3
  clear hB3
  go_wp2
  go_loop [4,14] (fun fr i=>∃ (k:Nat) (f:Int),k≤n2∧i = .int .i64 k∧fr = .int .i64 f∧1≤f∧f≤1001+k∧clashLoop none 1 l=clashLoop (prevOf l k) f (l.drop k)) (fun _ i=>n2-(intOf i).toNat)
  case atStart=>exact ⟨0,1,Nat.zero_le _,rfl,rfl,by omega,by omega,rfl⟩
  case round =>
    obtain ⟨k,f,hk,rfl,rfl,hf1,hf2,hcl⟩:=hrel
    have HCL:=hid hcl
    clear hcl
    by_cases hlt:k<n2
    · obtain ⟨b,o,rfl,hcell⟩:=hc k (by omega)
      obtain ⟨hx1,hx2⟩:=hpb k (by omega)
      have HST:=hid (clashLoop_step l k (by omega) f)
      have hklen:k<l.length:=by omega
      generalize hx:l[k]=x at *
      have HX:=hid hx
      clear hx
      have hprev:∃ y:Int,(0<k→w3.cell? ⟨b,o+(k-1),none⟩=some (.int .i64 y)∧prevOf l k=some y)∧(k=0→prevOf l k=none):=by
        by_cases h0:k=0
        · exact ⟨0,fun h=>by omega,fun _=>by simp [prevOf,h0]⟩
        · obtain ⟨b',o',hb',hcell'⟩:=hc (k-1) (by omega)
          cases hb'
          exact ⟨_,fun _=>⟨hcell',by simp [prevOf,h0]⟩,fun h=>absurd h h0⟩
      obtain ⟨y,hy,hy0⟩:=hprev
      clear hc hpb
      by_cases h0:k=0
      · have HP:=hid (hy0 h0)
        have hk0:((k:Int) == 0)=true:=by simp [h0]
        have hkk:=hid h0
        clear hy hy0 h0
        by_cases hxf:x<f
        · have HE:=hid (show clashR race=true by rw [HR.out,HCL.out,HST.out,HP.out,if_neg (by simp),if_pos hxf])
          clear HR HCL HST HP
          go_wp2
          go_ret
          exact ⟨ret_bool HE.out.symm,HB.out⟩
        · have HE:=hid (show clashLoop none 1 l=clashLoop (prevOf l (k+1)) (x+1) (l.drop (k+1)) by rw [HCL.out,HST.out,HP.out,if_neg (by simp),if_neg hxf])
          clear HCL HST HP
          go_wp2
          go_round
          case rel=>exact ⟨k+1,x+1,by omega,by go_num,rfl,by omega,by omega,HE.out⟩
          case measure=>simp [intOf];omega
      · obtain ⟨hcell',hp⟩:=hy (by omega)
        have HP:=hid hp
        have hk0:((k:Int) == 0)=false:=by simp [h0]
        have hk1:0<k:=by omega
        clear hy hy0 hp h0
        by_cases hxy:x=y
        · have hb1:(x != y)=false:=by simp [hxy]
          have HE:=hid (show clashLoop none 1 l=clashLoop (prevOf l (k+1)) (f+1) (l.drop (k+1)) by rw [HCL.out,HST.out,HP.out,if_pos (by rw [hxy])])
          have hxy':=hid hxy
          clear HCL HST HP hxy
          go_wp2
          go_round
          case rel=>exact ⟨k+1,f+1,by omega,by go_num,rfl,by omega,by omega,HE.out⟩
          case measure=>simp [intOf];omega
        · have hb1:(x != y)=true:=by simp [hxy]
          have hne:¬ (some y=some x):=fun h=>hxy (by injection h with h;exact h.symm)
          by_cases hxf:x<f
          · have HE:=hid (show clashR race=true by rw [HR.out,HCL.out,HST.out,HP.out,if_neg hne,if_pos hxf])
            clear HR HCL HST HP hxy hne
            go_wp2
            go_ret
            exact ⟨ret_bool HE.out.symm,HB.out⟩
          · have HE:=hid (show clashLoop none 1 l=clashLoop (prevOf l (k+1)) (x+1) (l.drop (k+1)) by rw [HCL.out,HST.out,HP.out,if_neg hne,if_neg hxf])
            clear HCL HST HP hxy hne
            go_wp2
            go_round
            case rel=>exact ⟨k+1,x+1,by omega,by go_num,rfl,by omega,by omega,HE.out⟩
            case measure=>simp [intOf];omega
    · have HE:=hid (show clashR race=decide (61<f) by rw [HR.out,HCL.out,List.drop_of_length_le (by omega)];cases prevOf l k <;> rfl)
      clear HR HCL hc hpb
      go_wp2
      go_ret
      exact ⟨ret_bool HE.out.symm,HB.out⟩
end KL
end Go.Proofs
end
section
namespace Go.Proofs
open KL
namespace KV
variable {P:Program} {C:Cx} {M:Mem} {w w':World}

abbrev rowI(l:List Int):AO := .row 3 l.length (l.map intP)

theorem ints_of{F:Nat→Prop}{l:List Int}{u:Value}(h:RepP F w (intsP l) u):Ints w u l:=by
  change RepP F w (.sl l.length (l.map intP)) u at h
  generalize hn:l.length=n at h
  generalize hc:l.map intP=cs at h
  cases h with
  | sl n cs p cap us h1 h2 h3 h4 h5 =>
    subst hn
    refine ⟨p,cap,rfl,h1,h2,fun i hi => ?_⟩
    have hl:i<cs.length:=by rw [← hc];simpa using hi
    obtain ⟨b,o,hp,_,hw⟩:=h3 i hl
    refine ⟨b,o,us i,hp,hw,?_⟩
    have:=h4 i hl
    subst hc
    rw [List.getElem_map] at this
    exact repV this

theorem arr_vals{F:Nat→Prop}{cur:Array Value}{l:List Int}(hle:l.length≤cur.size)(h:∀ j (hj:j<(l.map intP).length),RepP F w (l.map intP)[j] (cur.getD j undef)):cur.toList.take l.length=l.map (Value.int .i64):=by
  apply List.ext_getElem
  · simp;omega
  · intro i h1 h2
    have hi:i<l.length:=by simpa using h2
    have:=h i (by simpa using hi)
    rw [List.getElem_map] at this
    rw [List.getElem_map,List.getElem_take]
    cases hx:cur.getD i undef with
    | int k z =>
      rw [hx] at this
      cases this
      rw [Array.getD_eq_getD_getElem?,Array.getElem?_eq_getElem (by omega)] at hx
      simpa using hx
    | _=>rw [hx] at this;cases this
theorem vals_arr(F:Nat→Prop){cur:Array Value}{l:List Int}(h:cur.toList.take l.length=l.map (Value.int .i64)):(∀ j (hj:j<(l.map intP).length),RepP F w (l.map intP)[j] (cur.getD j undef))∧∀ j,j<(l.map intP).length→(cur.getD j undef).oneCell'=true:=by
  have key:∀ j (hj:j<l.length),cur.getD j undef = .int .i64 l[j]:=fun j hj=>by
    have h1:=congrArg (fun x=>x[j]?) h
    simp only [List.getElem?_take,hj,if_true,List.getElem?_map,List.getElem?_eq_getElem hj,Option.map_some,Array.getElem?_toList] at h1
    rw [Array.getD_eq_getD_getElem?,h1];rfl
  refine ⟨fun j hj => ?_,fun j hj => ?_⟩
  · have hj':j<l.length:=by simpa using hj
    rw [List.getElem_map,key j hj'];exact .v _
  · rw [key j (by simpa using hj)];rfl

theorem size3:∃ i,Tryz.prog.info? 3=some i∧i.size=1:=by
  have:=info3
  cases h:Tryz.prog.info? 3 with
  | none=>rw [h] at this;cases this
  | some i=>rw [h] at this;exact ⟨i,rfl,by simpa using this⟩

theorem own_in{id:Nat}{l:List Int}{u:Value}(hM:MemOK Tryz.prog C M w)(ho:M[id]? = some (some (rowI l)))(h:Rep C M w (.own id) u):OwnI w 0 u l:=by
  refine ⟨by simp,?_⟩
  cases h with
  | own _ _ h0 ha hr =>
    rcases hr _ _ _ ho with ⟨rfl,_,hn⟩ | ⟨b,rfl,hb⟩
    · exact .inl ⟨rfl,hn⟩
    · rcases hM.row _ _ _ _ ho with ⟨hn',_⟩ | ⟨b',arr,inf,hb',q1,q2,q3,q4,q5,q6,q7,q8⟩
      · rw [hb] at hn';cases hn'
      · rw [hb] at hb';cases hb'
        obtain ⟨i,hi,hs⟩:=size3
        rw [hi] at q2;cases q2
        exact .inr ⟨b,_,arr,rfl,Nat.zero_le _,q1,q5,q6,by rw [q3,hs],by rw [Nat.mul_one];exact arr_vals (by rw [q3,hs];omega) q7⟩

theorem row_after{l l':List Int}{u u':Value}{d:Bool}(hM:MemOK Tryz.prog C [some (rowI l)] w)(h:Rep C [some (rowI l)] w (.own 0) u)(hown:OwnI w' 0 u' l')(hg:w.grownBy w' u.ownBlock)
    (hb:u'.ownBlock=u.ownBlock) (hd:d=false→u'=u∧l'.length=l.length) :
    ∃ C',Fr C [some (rowI l)] w C' (if d then [some .dead,some (rowI l')] else [some (rowI l')]) w'∧MemOK Tryz.prog C' (if d then [some .dead,some (rowI l')] else [some (rowI l')]) w'∧Rep C' (if d then [some .dead,some (rowI l')] else [some (rowI l')]) w' (.own (if d then 1 else 0)) u':=by
  have at0:∀ (id:Nat) (o:AO),([some (rowI l)]:Mem)[id]? = some (some o)→id=0∧o=rowI l:=fun id o h=>by
    cases id with
    | zero=>simp at h;exact ⟨rfl,h.symm⟩
    | succ i=>simp at h
  have hblk:∀ b,C.ι 0=some b→u.ownBlock=some b∧∃ cap,u = .slice (some ⟨b,0,none⟩) l.length cap∧cap=C.κ 0:=fun b hb0=>by
    cases h with
    | own _ _ h0 ha hr =>
      rcases hr _ _ _ rfl with ⟨_,hn,_⟩ | ⟨b',rfl,hb'⟩
      · rw [hb0] at hn;cases hn
      · rw [hb0] at hb';cases hb';exact ⟨rfl,_,rfl,rfl⟩
  have hnb:C.ι 0=none→u = .slice none 0 0:=fun hn=>by
    cases h with
    | own _ _ h0 ha hr =>
      rcases hr _ _ _ rfl with ⟨hu,_,_⟩ | ⟨b',rfl,hb'⟩
      · exact hu
      · rw [hn] at hb';cases hb'
  have hkeep:∀ b,b<w.heap.size→(∀ (id:Nat) (o:AO),([some (rowI l)]:Mem)[id]? = some (some o)→o.live=true→C.ι id≠some b)→w'.heap[b]? = w.heap[b]? := fun b hb1 hn=>by
    refine hg.block b hb1 fun he => ?_
    cases hι:C.ι 0 with
    | none=>rw [hnb hι] at he;cases he
    | some b' =>
      rw [(hblk b' hι).1] at he;cases he
      exact hn 0 _ rfl rfl hι
  have hFz:∀ b,C.F b→w'.heap[b]? = w.heap[b]? := fun b hf=>hkeep b (hM.Fs b hf) fun id o hm hl he=>hM.nF id o b hm hl he hf
  cases d with
  | false =>
    obtain ⟨rfl,hlen⟩:=hd rfl
    simp only [Bool.false_eq_true,if_false]
    have at1:∀ (id:Nat) (o:AO),([some (rowI l')]:Mem)[id]? = some (some o)→id=0∧o=rowI l':=fun id o h=>by
      cases id with
      | zero=>simp at h;exact ⟨rfl,h.symm⟩
      | succ i=>simp at h
    have hblk':∀ b,C.ι 0=some b→∃ cur,w'.heap[b]? = some (.cells cur 3 (0,0))∧l'.length≤C.κ 0∧C.κ 0≤maxLen∧cur.size=C.κ 0∧cur.toList.take l'.length=l'.map (Value.int .i64):=fun b hι=>by
      obtain ⟨_,cap,hu,hc⟩:=hblk b hι
      rcases hown.2 with ⟨he,_⟩ | ⟨g,cap',cur,hv,_,hh,r1,r2,r3,r4⟩
      · rw [hu] at he;cases he
      · rw [hu] at hv
        obtain ⟨e1,_,e3⟩:=Value.slice.inj hv
        cases e1
        subst e3
        subst hc
        exact ⟨cur,hh,r1,r2,by omega,by simpa using r4⟩
    refine ⟨C,⟨hg.os,hg.tape,hg.output,hg.size,hkeep,fun id o hm => ?_,fun id o hm ty n cs hx => ?_,fun id o hm o' hx hl => ?_,fun id o b hm hl hb => ?_,fun _ h=>h,fun _ h => .inl h⟩,
      ⟨fun id ty n cs hm => ?_,fun id ty cs hm => ?_,fun id es cl hm => ?_,fun id id' o o' b h1 _ h2 _ _ _ => ?_,fun id o b hm hl hb => ?_,fun b hb=>Nat.lt_of_lt_of_le (hM.Fs b hb) hg.size,fun id o b hm hl hb => ?_⟩,?_⟩
    · obtain ⟨rfl,rfl⟩:=at0 id o hm
      exact ⟨⟨_,rfl⟩,rfl,rfl⟩
    · obtain ⟨rfl,rfl⟩:=at0 id o hm
      obtain ⟨_,he⟩:=at1 _ _ hx
      cases he
      exact ⟨l.map intP,by rw [hlen];rfl⟩
    · obtain ⟨rfl,rfl⟩:=at0 id o hm
      rfl
    · obtain ⟨rfl,rfl⟩:=at1 id o hm
      exact .inr ⟨0,_,rfl,rfl,hb⟩
    · obtain ⟨rfl,he⟩:=at1 id _ hm
      cases he
      cases hι:C.ι 0 with
      | none =>
        have:=hnb hι
        rcases hown.2 with ⟨_,h0⟩ | ⟨g,cap',cur,hv,_⟩
        · have:l'=[]:=List.eq_nil_of_length_eq_zero h0
          subst this
          exact .inl ⟨rfl,rfl,rfl⟩
        · rw [this] at hv;cases hv
      | some b =>
        obtain ⟨cur,q1,q2,q3,q4,q5⟩:=hblk' b hι
        obtain ⟨i,hi,hs⟩:=size3
        obtain ⟨r1,r2⟩:=vals_arr (w:=w') C.F q5
        exact .inr ⟨b,cur,i,rfl,q1,hi,by rw [hs,q4,Nat.mul_one],by simp [hs],q2,q3,r1,r2⟩
    · obtain ⟨_,he⟩:=at1 id _ hm;cases he
    · obtain ⟨_,he⟩:=at1 id _ hm;cases he
    · obtain ⟨rfl,_⟩:=at1 id _ h1
      obtain ⟨rfl,_⟩:=at1 id' _ h2
      rfl
    · obtain ⟨rfl,_⟩:=at1 id _ hm
      exact hM.nF 0 _ b rfl rfl hb
    · obtain ⟨rfl,_⟩:=at1 id _ hm
      exact Nat.lt_of_lt_of_le (hM.lt 0 _ b rfl rfl hb) hg.size
    · cases h with
      | own _ _ h0 ha hr =>
        refine .own 0 _ h0 ⟨_,rfl⟩ fun ty n cs hx => ?_
        obtain ⟨_,he⟩:=at1 0 _ hx
        cases he
        rcases hr _ _ _ rfl with ⟨q1,q2,q3⟩ | ⟨b,q1,q2⟩
        · exact .inl ⟨q1,q2,by omega⟩
        · exact .inr ⟨b,by rw [q1,hlen],q2⟩
  | true =>
    simp only [if_true]
    let cap':Nat:=match u' with | .slice _ _ c=>c | _=>0
    have at1:∀ (id:Nat) (o:AO),([some .dead,some (rowI l')]:Mem)[id]? = some (some o)→(id=0∧o = .dead)∨(id=1∧o=rowI l'):=fun id o h=>by
      match id,h with
      | 0,h=>simp at h;exact .inl ⟨rfl,h.symm⟩
      | 1,h=>simp at h;exact .inr ⟨rfl,h.symm⟩
      | i+2,h=>simp at h
    refine ⟨{ ι:=fun i=>if i=1 then u'.ownBlock else C.ι i,κ:=fun i=>if i=1 then cap' else C.κ i,F:=C.F },⟨hg.os,hg.tape,hg.output,hg.size,hkeep,fun id o hm => ?_,fun id o hm ty n cs hx => ?_,fun id o hm o' hx hl => ?_,fun id o b hm hl hbb => ?_,fun _ h=>h,fun _ h => .inl h⟩,
      ⟨fun id ty n cs hm => ?_,fun id ty cs hm => ?_,fun id es cl hm => ?_,fun id id' o o' b h1 l1 h2 l2 _ _ => ?_,fun id o b hm hl hbb => ?_,fun b hb=>Nat.lt_of_lt_of_le (hM.Fs b hb) hg.size,fun id o b hm hl hbb => ?_⟩,?_⟩
    · obtain ⟨rfl,rfl⟩:=at0 id o hm
      exact ⟨⟨_,rfl⟩,rfl,rfl⟩
    · obtain ⟨rfl,rfl⟩:=at0 id o hm
      rcases at1 _ _ hx with ⟨_,he⟩ | ⟨he,_⟩
      · cases he
      · cases he
    · obtain ⟨rfl,rfl⟩:=at0 id o hm
      rfl
    · rcases at1 id o hm with ⟨rfl,rfl⟩ | ⟨rfl,rfl⟩
      · cases hl
      · simp only [if_true] at hbb
        rw [hb] at hbb
        cases hι:C.ι 0 with
        | none=>rw [hnb hι] at hbb;cases hbb
        | some b' =>
          rw [(hblk b' hι).1] at hbb;cases hbb
          exact .inr ⟨0,_,rfl,rfl,hι⟩
    · rcases at1 id _ hm with ⟨_,he⟩ | ⟨rfl,he⟩
      · cases he
      · cases he
        simp only [if_true]
        rcases hown.2 with ⟨rfl,h0⟩ | ⟨g,cp,cur,rfl,_,hh,r1,r2,r3,r4⟩
        · have:l'=[]:=List.eq_nil_of_length_eq_zero h0
          subst this
          exact .inl ⟨rfl,rfl,rfl⟩
        · obtain ⟨i,hi,hs⟩:=size3
          obtain ⟨q1,q2⟩:=vals_arr (w:=w') C.F (by simpa using r4)
          exact .inr ⟨g,cur,i,rfl,hh,hi,by rw [hs];exact r3,by simp [hs],r1,r2,q1,q2⟩
    · rcases at1 id _ hm with ⟨_,he⟩ | ⟨_,he⟩ <;> cases he
    · rcases at1 id _ hm with ⟨_,he⟩ | ⟨_,he⟩ <;> cases he
    · rcases at1 id _ h1 with ⟨_,rfl⟩ | ⟨rfl,_⟩
      · cases l1
      · rcases at1 id' _ h2 with ⟨_,rfl⟩ | ⟨rfl,_⟩
        · cases l2
        · rfl
    · rcases at1 id _ hm with ⟨_,rfl⟩ | ⟨rfl,_⟩
      · cases hl
      · simp only [if_true] at hbb
        rw [hb] at hbb
        cases hι:C.ι 0 with
        | none=>rw [hnb hι] at hbb;cases hbb
        | some b' =>
          rw [(hblk b' hι).1] at hbb;cases hbb
          exact hM.nF 0 _ _ rfl rfl hι
    · rcases at1 id _ hm with ⟨_,rfl⟩ | ⟨rfl,_⟩
      · cases hl
      · simp only [if_true] at hbb
        rw [hb] at hbb
        cases hι:C.ι 0 with
        | none=>rw [hnb hι] at hbb;cases hbb
        | some b' =>
          rw [(hblk b' hι).1] at hbb;cases hbb
          exact Nat.lt_of_lt_of_le (hM.lt 0 _ _ rfl rfl hι) hg.size
    · have h0:u'.oneCell'=true:=by
        rcases hown.2 with ⟨rfl,_⟩ | ⟨g,cp,cur,rfl,_⟩ <;> rfl
      refine .own 1 _ h0 ⟨_,rfl⟩ fun ty n cs hx => ?_
      rcases at1 _ _ hx with ⟨he,_⟩ | ⟨_,he⟩
      · cases he
      · cases he
        simp only [if_true]
        rcases hown.2 with ⟨rfl,h9⟩ | ⟨g,cp,cur,rfl,_⟩
        · exact .inl ⟨rfl,rfl,h9⟩
        · exact .inr ⟨g,rfl,rfl⟩

theorem repL_one{x:AV}{us:List Value}(h:RepL C M w [x] us):∃ u,us=[u]∧Rep C M w x u:=by
  cases h with | cons _ u _ _ h hr=>cases hr;exact ⟨u,rfl,h⟩
theorem repL_two{x y:AV}{us:List Value}(h:RepL C M w [x,y] us):∃ u v,us=[u,v]∧Rep C M w x u∧Rep C M w y v:=by
  cases h with | cons _ u _ _ h hr=>obtain ⟨v,rfl,h2⟩:=repL_one hr;exact ⟨u,v,rfl,h,h2⟩
theorem rep_fn{f:Nat}{u:Value}(h:Rep C M w (.fn f [] []) u):u = .func (.func f) #[] #[]:=by
  cases h with
  | fn _ _ _ us vs h1 h2 h3 h4 =>
    have e1:us = #[]:=Array.eq_empty_of_size_eq_zero h1
    have e2:vs = #[]:=Array.eq_empty_of_size_eq_zero h2
    subst e1;subst e2;rfl

theorem cloneI_ok(l:List Int)(hl:l.length≤1000){base:Nat}:FV Tryz.prog 150 [.p (intsP l)] base (.own base) [(base,rowI l)]:=by
  refine ⟨.own 0,[some (rowI l)],fun C w us hus hM n => ?_,by simp [outP,keptOf,rowAt,objAt,outK,outX]⟩
  obtain ⟨u,rfl,hu⟩:=repL_one hus
  cases hu with
  | p _ _ hu =>
    refine (callsIn_wide.2 (clone_own u l w (ints_of hu) hl)).mono ?_
    rintro e w' ⟨p',n',cap',rfl,rfl,h1,h2⟩
    have at1:∀ (id:Nat) (o:AO),([some (rowI l)]:Mem)[id]? = some (some o)→id=0∧o=rowI l:=fun id o h=>by
      cases id with
      | zero=>simp at h;exact ⟨rfl,h.symm⟩
      | succ i=>simp at h
    have hno:∀ (id:Nat) (o:AO),¬ (([]:Mem)[id]? = some (some o)):=fun id o h=>by simp at h
    have hc:(p'=none∧l=[]∧cap'=0)∨∃ g cur,p'=some ⟨g,0,none⟩∧w.heap.size≤g∧w'.heap[g]? = some (.cells cur 3 (0,0))∧l.length≤cap'∧cap'≤maxLen∧cur.size=cap'*1∧cur.toList.take (l.length*1)=l.map (Value.int .i64):=by
      rcases h1.2 with ⟨he,h0⟩ | ⟨g,cp,cur,he,hg,hh,r1,r2,r3,r4⟩
      · obtain ⟨e1,_,e3⟩:=Value.slice.inj he
        exact .inl ⟨e1,List.eq_nil_of_length_eq_zero h0,e3⟩
      · obtain ⟨e1,_,e3⟩:=Value.slice.inj he
        subst e3
        exact .inr ⟨g,cur,e1,hg,hh,r1,r2,r3,r4⟩
    have new:∀ b,(Value.slice p' l.length cap').ownBlock=some b→w.heap.size≤b∧b<w'.heap.size:=fun b hb=>by
      rcases hc with ⟨rfl,_⟩ | ⟨g,cur,rfl,hg,hh,_⟩
      · cases hb
      · cases hb;exact ⟨hg,lt_of_block hh⟩
    refine ⟨_,rfl,{ ι:=fun _=>(Value.slice p' l.length cap').ownBlock,κ:=fun _=>cap',F:=C.F },⟨h2.os,h2.tape,h2.output,h2.size,fun b hb _=>h2.block b hb,fun id o h=>absurd h (hno id o),fun id o h=>absurd h (hno id o),fun id o h=>absurd h (hno id o),fun id o b hm hl hb => .inl (new b hb).1,fun _ h=>h,fun _ h => .inl h⟩,
      ⟨fun id ty n cs hm => ?_,fun id ty cs hm => ?_,fun id es cl hm => ?_,fun id id' o o' b q1 _ q2 _ _ _ => ?_,fun id o b hm hl hb hf => ?_,fun b hb=>Nat.lt_of_lt_of_le (hM.Fs b hb) h2.size,fun id o b hm hl hb=>(new b hb).2⟩,?_⟩
    · obtain ⟨rfl,he⟩:=at1 _ _ hm
      cases he
      rcases hc with ⟨rfl,rfl,_⟩ | ⟨g,cur,rfl,_,hh,r1,r2,r3,r4⟩
      · exact .inl ⟨rfl,rfl,rfl⟩
      · obtain ⟨i,hi,hs⟩:=size3
        obtain ⟨q1,q2⟩:=vals_arr (w:=w') C.F (by simpa using r4)
        exact .inr ⟨g,cur,i,rfl,hh,hi,by rw [hs];exact r3,by simp [hs],r1,r2,q1,q2⟩
    · obtain ⟨_,he⟩:=at1 _ _ hm;cases he
    · obtain ⟨_,he⟩:=at1 _ _ hm;cases he
    · obtain ⟨rfl,_⟩:=at1 _ _ q1
      obtain ⟨rfl,_⟩:=at1 _ _ q2
      rfl
    · have:=hM.Fs _ hf
      have:=(new b hb).1
      omega
    · refine .own 0 _ rfl ⟨_,rfl⟩ fun ty n cs hm => ?_
      obtain ⟨_,he⟩:=at1 _ _ hm
      cases he
      rcases hc with ⟨rfl,rfl,rfl⟩ | ⟨g,cur,rfl,_⟩
      · exact .inl ⟨rfl,rfl,rfl⟩
      · exact .inr ⟨g,rfl,rfl⟩
end KV
end Go.Proofs
end
section
namespace Go.Proofs
open Go.RowKit
namespace KL
section
variable {P:Program}

structure Later (w:World) where
  W:World
  h:Below w.heap.size w W

instance (w:World):Nonempty (Later w):=⟨⟨w,Below.refl _ _⟩⟩

theorem wp_region_qL{id:Nat}{Q:Exit→Act→World→Prop}{a:Act}{w:World}{l:List Oper}(hm:P.follows .mixedOrders=true)(hB:Region.lexB .any l.toArray=true)
    (h:wpQuiet P l.toArray (fun w'=>∃ z:Later w,w'=z.W) (fun a'=>∀ w',(∃ z:Later w,w'=z.W)→Q .normal a' w') l a):(Code.region id l.toArray true).wp P Q a w :=
  wp_region_quiet (C:=fun w'=>∃ z:Later w,w'=z.W) hm hB ⟨⟨_,(Below.refl _ w).drew⟩,rfl⟩ (by simpa using h)

theorem Later.call{f:FuncId}{args:Array Value}{w:World}{v:Value}(z:Later w)(h:Calls P f args z.W (Ret v z.W)) :
    Calls P f args z.W fun e w''=>e = .returned v∧∃ z':Later w,w''=z'.W :=
  h.mono fun _ _ ⟨he,hB⟩=>⟨he,⟨_,z.h.trans (hB.mono z.h.size)⟩,rfl⟩

theorem Later.same{f:FuncId}{args:Array Value}{w:World}{v:Value}(z:Later w)(h:Calls P f args z.W (fun e w'=>e = .returned v∧z.W=w')) :
    Calls P f args z.W fun e w''=>e = .returned v∧∃ z':Later w,w''=z'.W :=
  h.mono fun _ _ ⟨he,hB⟩=>⟨he,z,hB.symm⟩

theorem later_all{w:World}{p:World→Prop}(h:∀ w2,Below w.heap.size w w2→p w2):∀ w',(∃ z:Later w,w'=z.W)→p w':=by
  rintro _ ⟨z,rfl⟩
  exact h z.W z.h

theorem later_cell{w:World}{b o:Nat}{u:Value}(h:w.cell? ⟨b,o,none⟩=some u)(z:Later w):z.W.cell? ⟨b,o,none⟩=some u :=
  (z.h.cell (p:=⟨b,o,none⟩) (World.block_lt_of_cell? w _ h)).trans h
end
end KL
end Go.Proofs
end
section
namespace Go.Proofs
open Go.RowKit Go.Lib Go.Sort
namespace KL

def sortedB(cmp:Int→Int→Int)(l:List Int):Bool:=decide (∀ j,j<l.length-1→0≤cmp (l.getD (j+1) 0) (l.getD j 0))

theorem getD_at(l:List Int)(k:Nat)(h:k<l.length):l.getD k 0=l[k]:=by
  rw [List.getD_eq_getElem?_getD,List.getElem?_eq_getElem h];rfl

set_option maxHeartbeats 1000000 in
set_option maxRecDepth 100000 in
theorem isSorted_any(v:Value)(l:List Int)(g:FuncId)(cmp:Int→Int→Int)(w:World)(hv:Ints w v l)(hlen:l.length≤1000) 
   (eg:∀ args W,(callFunc g args).run Tryz.prog W = .ok (.enter g args) W) (hg:∀ W x y,Calls Tryz.prog g #[.int .i64 x,.int .i64 y] W fun e w'=>e = .returned (.int .i64 (cmp x y))∧W=w') :
    Calls Tryz.prog 142 #[v,.func (.func g) #[] #[]] w (Ret (.bool (sortedB cmp l)) w):=by
  obtain ⟨p,cap,rfl,hlc,hcm,hc⟩:=hv.open
  unfold maxLen at hcm
  have HG:=hid hg
  clear hg hv
  go_enter Tryz.func142,Tryz.ntmps142
  go_wp2
  go_loopw [5] (fun i wr=>∃ (k:Int),-1≤k∧k+1≤l.length∧i = .int .i64 k∧Below w.heap.size w wr∧∀ j:Nat,k≤j→j<l.length-1→0≤cmp (l.getD (j+1) 0) (l.getD j 0)) (fun i _=>(intOf i).toNat)
  case atStart=>exact ⟨(l.length:Int)-1,by omega,by omega,rfl,Below.refl _ _,fun j h1 h2=>by omega⟩
  case round =>
    obtain ⟨k,hk0,hk,rfl,hB,hs⟩:=hrel
    have HB:=hid hB
    have HS:=hid hs
    clear hB hs
    by_cases h0:0<k
    · obtain ⟨m,rfl⟩:∃ m:Nat,k=m:=⟨k.toNat,by omega⟩
      have hm:m<l.length:=by omega
      obtain ⟨b,o,rfl,c1⟩:=hc m hm
      obtain ⟨b',o',hb',c2⟩:=hc (m-1) (by omega)
      cases hb'
      have e1:=HB.out.cell (p:=⟨b,o+m,none⟩) (World.block_lt_of_cell? w _ c1)
      have e2:=HB.out.cell (p:=⟨b,o+(m-1),none⟩) (World.block_lt_of_cell? w _ c2)
      have hx:=hid (getD_at l m hm)
      have hy:=hid (getD_at l (m-1) (by omega))
      generalize hxx:l[m]=x at *
      generalize hyy:l[m-1]=y at *
      have d1:=later_cell (e1.trans c1)
      have d2:=later_cell (e2.trans c2)
      clear hc c1 c2 e1 e2 hxx hyy
      have i1:(m:Int)<l.length:=by omega
      go_wp2
      refine wp_region_qL (by kernel_rfl) (by kernel_rfl) ?_
      repeat (go_big_quiet_step (exact Later.same _ (HG.out _ _ _)))
      refine wpQuiet_nil (later_all fun w2 hb2 => ?_)
      have HB2:=hid (HB.out.trans (hb2.mono HB.out.size))
      clear hb2 HB d1 d2
      by_cases hneg:cmp x y<0
      · have HE:=hid (show sortedB cmp l=false by
          unfold sortedB
          rw [decide_eq_false_iff_not]
          intro h
          have:=h (m-1) (by omega)
          rw [show m-1+1=m by omega,hx.out,hy.out] at this
          omega)
        clear HS
        go_wp2
        go_ret
        exact ⟨ret_bool HE.out.symm,HB2.out⟩
      · go_wp2
        go_roundw
        case rel =>
          refine ⟨(m:Int)-1,by omega,by omega,by go_num,HB2.out,fun j h1 h2 => ?_⟩
          by_cases hj:j=m-1
          · subst hj
            rw [show m-1+1=m by omega,hx.out,hy.out]
            omega
          · exact HS.out j (by omega) h2
        case measure=>simp [intOf];omega
    · have HE:=hid (show sortedB cmp l=true by
        unfold sortedB
        rw [decide_eq_true_iff]
        intro j hj
        exact HS.out j (by omega) hj)
      clear HS hc
      go_wp2
      go_ret
      exact ⟨ret_bool HE.out.symm,HB.out⟩

def cmpDown(a b:Int):Int:=cmpI b a

theorem falls1_any(W:World)(x y:Int):Calls Tryz.prog 143 #[.int .i64 x,.int .i64 y] W fun e w'=>e = .returned (.int .i64 (cmpDown x y))∧W=w':=by
  go_enter Tryz.func143,Tryz.ntmps143
  go_wp2_with (go_at_call 97;refine (compare_any _ _ _).mono ?_;rintro e w' ⟨rfl,rfl⟩)
  go_ret
  exact ⟨rfl,rfl⟩

def fallsB(l:List Int):Bool:=sortedB cmpDown l

theorem falls_any(v:Value)(l:List Int)(w:World)(hv:Ints w v l)(hlen:l.length≤1000):Calls Tryz.prog 93 #[v] w (Ret (.bool (fallsB l)) w):=by
  have HI:=hid (isSorted_any v l 143 cmpDown w hv hlen (enters_of Tryz.func143 (by kernel_rfl) rfl) falls1_any)
  clear hv
  go_enter Tryz.func93,Tryz.ntmps93
  go_wp2_with (go_at_call 142;refine HI.out.mono ?_;rintro e w1 ⟨rfl,hb1⟩)
  go_ret
  exact ⟨rfl,hb1⟩
end KL
end Go.Proofs
end
section
namespace Go.Proofs
open Go.RowKit Go.Lib Go.Sort
namespace KL

structure Cup where
  sk:Int
  ra:Int
  be:Int
  pts:List Int
  done:List (List Int)

def CupAt(w:World)(v:Value)(c:Cup):Prop :=
  ∃ vp vd,v = .agg #[.int .i64 c.sk,.int .i64 c.ra,.int .i64 c.be,vp,vd]∧Ints w vp c.pts∧Rows w vd c.done

theorem CupAt.below{w w':World}{v:Value}{c:Cup}(h:CupAt w v c)(hb:Below w.heap.size w w'):CupAt w' v c:=by
  obtain ⟨vp,vd,rfl,h1,h2⟩:=h
  exact ⟨vp,vd,rfl,ints_below h1 hb,rows_below h2 hb⟩

structure Small (c:Cup):Prop where
  pts:c.pts.length≤1000
  done:c.done.length≤1000
  rows:∀ r∈c.done,r.length≤1000

def wiB(n lo hi:Int):Bool:=decide (lo≤n∧n≤hi)

theorem within_is{n lo hi:Int}{b:Bool}(h:wiB n lo hi=b)(w:World):Calls Tryz.prog 89 #[.int .i64 n,.int .i64 lo,.int .i64 hi] w fun e w'=>e = .returned (.bool b)∧w=w':=by
  subst h
  exact within_any n lo hi w

def checkP(c:Cup):Int :=
  if !wiB c.sk 1 12 || !wiB c.ra 1 20 || !wiB c.be 1 c.ra then 3
  else if !wiB c.pts.length 1 60 || decide (c.ra<c.done.length) || !c.done.all (fun r=>((r.length:Int) == c.sk)) then 2
  else if !c.pts.all (fun n=>wiB n 0 1000) || !c.done.all (fun r=>r.all fun p=>wiB p 0 60) then 3
  else if !fallsB c.pts then 4
  else if c.done.any clashR then 7 else 0

abbrev cupBox(c:Cup)(vp vd:Value):Obj := .cells #[.int .i64 c.sk,.int .i64 c.ra,.int .i64 c.be,vp,vd] 25

theorem box5{w W1:World}{c:Cup}{vp vd:Value}(hB:Below (w.alloc (cupBox c vp vd)).heap.size (w.alloc (cupBox c vp vd)) W1) :
    W1.cell? ⟨w.heap.size,0,none⟩=some (.int .i64 c.sk)∧W1.cell? ⟨w.heap.size,1,none⟩=some (.int .i64 c.ra)∧W1.cell? ⟨w.heap.size,2,none⟩=some (.int .i64 c.be) ∧
    W1.cell? ⟨w.heap.size,3,none⟩=some vp∧W1.cell? ⟨w.heap.size,4,none⟩=some vd:=by
  refine ⟨?_,?_,?_,?_,?_⟩ <;> rw [(bcell hB).1 _ _ (by simp)] <;> simp

set_option maxHeartbeats 400000 in
theorem pred118(w w1:World)(c:Cup)(vp vd:Value)(l:List (List Int))(hw1:Below (w.alloc (cupBox c vp vd)).heap.size (w.alloc (cupBox c vp vd)) w1) :
    PredOn Tryz.prog 118 #[.pointer (some ⟨w.heap.size,0,none⟩)] (fun w (l:List Int) v=>Ints w v l) (fun r=>((r.length:Int) == c.sk)) l w1:=by
  refine ⟨enters_of Tryz.func118 (by kernel_rfl) rfl,fun W x u hx hb henc => ?_⟩
  obtain ⟨k0,_,_,_,_⟩:=box5 (hw1.trans (hb.mono hw1.size))
  obtain ⟨p,cap,rfl,h1,h2,_⟩:=henc.open
  unfold maxLen at h2
  clear hb hw1 henc hx
  show Calls Tryz.prog 118 #[.slice p x.length cap,.pointer (some ⟨w.heap.size,0,none⟩)] W _
  go_enter Tryz.func118,Tryz.ntmps118
  go_wp2
  go_ret
  exact ⟨rfl,Below.refl _ _⟩

theorem predWithin{g:FuncId}{l:List Int}{w:World}{lo hi:Int}(eg:∀ args W,(callFunc g args).run Tryz.prog W = .ok (.enter g args) W)
    (h:∀ x W,Calls Tryz.prog g #[.int .i64 x] W fun e w'=>e = .returned (.bool (wiB x lo hi))∧W=w'):PredOn Tryz.prog g #[] IsInt (fun n=>wiB n lo hi) l w :=
  ⟨eg,fun W x u _ _ henc=>by
    subst henc
    exact (h x W).mono fun e w' ⟨he,hw⟩=>⟨he,by rw [← hw];exact Below.refl _ _⟩⟩

theorem f119_any(x:Int)(W:World):Calls Tryz.prog 119 #[.int .i64 x] W fun e w'=>e = .returned (.bool (wiB x 0 1000))∧W=w':=by
  have HI:=hid (@within_is x 0 1000 _ rfl W)
  go_enter Tryz.func119,Tryz.ntmps119
  go_wp2_with (go_at_call 89;refine HI.out.mono ?_;rintro e w' ⟨rfl,rfl⟩)
  go_ret
  exact ⟨rfl,rfl⟩
theorem f121_any(x:Int)(W:World):Calls Tryz.prog 121 #[.int .i64 x] W fun e w'=>e = .returned (.bool (wiB x 0 60))∧W=w':=by
  have HI:=hid (@within_is x 0 60 _ rfl W)
  go_enter Tryz.func121,Tryz.ntmps121
  go_wp2_with (go_at_call 89;refine HI.out.mono ?_;rintro e w' ⟨rfl,rfl⟩)
  go_ret
  exact ⟨rfl,rfl⟩

theorem pred120(w:World)(l:List (List Int)):PredOn Tryz.prog 120 #[] (fun w (l:List Int) v=>Ints w v l) (fun r=>r.all fun p=>wiB p 0 60) l w:=by
  refine ⟨enters_of Tryz.func120 (by kernel_rfl) rfl,fun W x u hx hb henc => ?_⟩
  have HI:=hid (all_ints u x 121 #[] _ W henc (predWithin (enters_of Tryz.func121 (by kernel_rfl) rfl) f121_any))
  clear hb henc hx
  show Calls Tryz.prog 120 #[u] W _
  go_enter Tryz.func120,Tryz.ntmps120
  go_wp2_with (go_at_call 90;refine HI.out.mono ?_;rintro e w1 ⟨rfl,hb1⟩)
  go_ret
  exact ⟨rfl,hb1⟩

theorem predClash(w:World)(l:List (List Int))(hl:∀ r∈l,r.length≤1000)(hr:∀ r∈l,∀ x∈r,0≤x∧x≤1000):PredOn Tryz.prog 123 #[] (fun w (l:List Int) v=>Ints w v l) clashR l w :=
  ⟨enters_of Tryz.func123 (by kernel_rfl) rfl,fun W x u hx _ henc=>clash_any u x W henc (hl x hx) (hr x hx)⟩

theorem rows_range{l:List (List Int)}(h:l.all (fun r=>r.all fun p=>wiB p 0 60)=true):∀ r∈l,∀ x∈r,0≤x∧x≤1000:=by
  intro r hr x hx
  have h1:=List.all_eq_true.1 h r hr
  have h2:=List.all_eq_true.1 h1 x hx
  unfold wiB at h2
  rw [decide_eq_true_iff] at h2
  omega

set_option maxHeartbeats 1000000 in
set_option maxRecDepth 100000 in
theorem check_1(c:Cup)(v:Value)(w:World)(hv:CupAt w v c)(hS:Small c)(f1:wiB c.sk 1 12=false):Calls Tryz.prog 49 #[v] w (Ret (.int .i64 (checkP c)) w):=by
  have HE:=hid (show checkP c=3 by unfold checkP;simp [f1])
  obtain ⟨vp,vd,rfl,hp,hd⟩:=hv
  have hB:=Below.refl (w.alloc (cupBox c vp vd)).heap.size (w.alloc (cupBox c vp vd))
  have hW:=(Below.refl w.heap.size w).alloc (Nat.le_refl _) (cupBox c vp vd)
  have hp1:=ints_below hp hW
  have hd1:=rows_below hd hW
  have hS1:=hS.pts
  have hS2:=hS.done
  have H118:=hid (fun W1 (hb:Below (w.alloc (cupBox c vp vd)).heap.size (w.alloc (cupBox c vp vd)) W1)=>all_rows vd c.done 118 _ _ W1 (rows_below hd1 hb) (pred118 w W1 c vp vd c.done hb))
  have H119:=hid (fun W1 (hb:Below (w.alloc (cupBox c vp vd)).heap.size (w.alloc (cupBox c vp vd)) W1)=>all_ints vp c.pts 119 #[] _ W1 (ints_below hp1 hb) (predWithin (enters_of Tryz.func119 (by kernel_rfl) rfl) f119_any))
  have H120:=hid (fun W1 (hb:Below (w.alloc (cupBox c vp vd)).heap.size (w.alloc (cupBox c vp vd)) W1)=>all_rows vd c.done 120 #[] _ W1 (rows_below hd1 hb) (pred120 W1 c.done))
  have H93:=hid (fun W1 (hb:Below (w.alloc (cupBox c vp vd)).heap.size (w.alloc (cupBox c vp vd)) W1)=>falls_any vp c.pts W1 (ints_below hp1 hb) hS.pts)
  obtain ⟨pp,cp,rfl,hp2,hp3,_⟩:=hp.open
  obtain ⟨pd,cd,rfl,hd2,hd3,_⟩:=hd.open
  unfold maxLen at hp3 hd3
  have hBW:=hid hW
  obtain ⟨k0,k1,k2,k3,k4⟩:=box5 hB
  clear hp hd hp1 hd1 hW hS
  have F1:=hid f1
  clear f1
  go_enter Tryz.func49,Tryz.ntmps49
  go_wp2_with (first | (go_at_call 89;first | ((with_reducible refine (within_is F1.out _).mono ?_);rintro e w' ⟨rfl,rfl⟩)))
  go_ret
  exact ⟨ret_int HE.out.symm,hBW.out.trans (hB.mono (by simp))⟩

set_option maxHeartbeats 1000000 in
set_option maxRecDepth 100000 in
theorem check_2(c:Cup)(v:Value)(w:World)(hv:CupAt w v c)(hS:Small c)(f1:wiB c.sk 1 12=true)(f2:wiB c.ra 1 20=false):Calls Tryz.prog 49 #[v] w (Ret (.int .i64 (checkP c)) w):=by
  have HE:=hid (show checkP c=3 by unfold checkP;simp [f1,f2])
  obtain ⟨vp,vd,rfl,hp,hd⟩:=hv
  have hB:=Below.refl (w.alloc (cupBox c vp vd)).heap.size (w.alloc (cupBox c vp vd))
  have hW:=(Below.refl w.heap.size w).alloc (Nat.le_refl _) (cupBox c vp vd)
  have hp1:=ints_below hp hW
  have hd1:=rows_below hd hW
  have hS1:=hS.pts
  have hS2:=hS.done
  have H118:=hid (fun W1 (hb:Below (w.alloc (cupBox c vp vd)).heap.size (w.alloc (cupBox c vp vd)) W1)=>all_rows vd c.done 118 _ _ W1 (rows_below hd1 hb) (pred118 w W1 c vp vd c.done hb))
  have H119:=hid (fun W1 (hb:Below (w.alloc (cupBox c vp vd)).heap.size (w.alloc (cupBox c vp vd)) W1)=>all_ints vp c.pts 119 #[] _ W1 (ints_below hp1 hb) (predWithin (enters_of Tryz.func119 (by kernel_rfl) rfl) f119_any))
  have H120:=hid (fun W1 (hb:Below (w.alloc (cupBox c vp vd)).heap.size (w.alloc (cupBox c vp vd)) W1)=>all_rows vd c.done 120 #[] _ W1 (rows_below hd1 hb) (pred120 W1 c.done))
  have H93:=hid (fun W1 (hb:Below (w.alloc (cupBox c vp vd)).heap.size (w.alloc (cupBox c vp vd)) W1)=>falls_any vp c.pts W1 (ints_below hp1 hb) hS.pts)
  obtain ⟨pp,cp,rfl,hp2,hp3,_⟩:=hp.open
  obtain ⟨pd,cd,rfl,hd2,hd3,_⟩:=hd.open
  unfold maxLen at hp3 hd3
  have hBW:=hid hW
  obtain ⟨k0,k1,k2,k3,k4⟩:=box5 hB
  clear hp hd hp1 hd1 hW hS
  have F1:=hid f1
  clear f1
  have F2:=hid f2
  clear f2
  go_enter Tryz.func49,Tryz.ntmps49
  go_wp2_with (first | (go_at_call 89;first | ((with_reducible refine (within_is F1.out _).mono ?_);rintro e w' ⟨rfl,rfl⟩) | ((with_reducible refine (within_is F2.out _).mono ?_);rintro e w' ⟨rfl,rfl⟩)))
  go_ret
  exact ⟨ret_int HE.out.symm,hBW.out.trans (hB.mono (by simp))⟩

set_option maxHeartbeats 1000000 in
set_option maxRecDepth 100000 in
theorem check_3(c:Cup)(v:Value)(w:World)(hv:CupAt w v c)(hS:Small c)(f1:wiB c.sk 1 12=true)(f2:wiB c.ra 1 20=true)(f3:wiB c.be 1 c.ra=false):Calls Tryz.prog 49 #[v] w (Ret (.int .i64 (checkP c)) w):=by
  have HE:=hid (show checkP c=3 by unfold checkP;simp [f1,f2,f3])
  obtain ⟨vp,vd,rfl,hp,hd⟩:=hv
  have hB:=Below.refl (w.alloc (cupBox c vp vd)).heap.size (w.alloc (cupBox c vp vd))
  have hW:=(Below.refl w.heap.size w).alloc (Nat.le_refl _) (cupBox c vp vd)
  have hp1:=ints_below hp hW
  have hd1:=rows_below hd hW
  have hS1:=hS.pts
  have hS2:=hS.done
  have H118:=hid (fun W1 (hb:Below (w.alloc (cupBox c vp vd)).heap.size (w.alloc (cupBox c vp vd)) W1)=>all_rows vd c.done 118 _ _ W1 (rows_below hd1 hb) (pred118 w W1 c vp vd c.done hb))
  have H119:=hid (fun W1 (hb:Below (w.alloc (cupBox c vp vd)).heap.size (w.alloc (cupBox c vp vd)) W1)=>all_ints vp c.pts 119 #[] _ W1 (ints_below hp1 hb) (predWithin (enters_of Tryz.func119 (by kernel_rfl) rfl) f119_any))
  have H120:=hid (fun W1 (hb:Below (w.alloc (cupBox c vp vd)).heap.size (w.alloc (cupBox c vp vd)) W1)=>all_rows vd c.done 120 #[] _ W1 (rows_below hd1 hb) (pred120 W1 c.done))
  have H93:=hid (fun W1 (hb:Below (w.alloc (cupBox c vp vd)).heap.size (w.alloc (cupBox c vp vd)) W1)=>falls_any vp c.pts W1 (ints_below hp1 hb) hS.pts)
  obtain ⟨pp,cp,rfl,hp2,hp3,_⟩:=hp.open
  obtain ⟨pd,cd,rfl,hd2,hd3,_⟩:=hd.open
  unfold maxLen at hp3 hd3
  have hBW:=hid hW
  obtain ⟨k0,k1,k2,k3,k4⟩:=box5 hB
  clear hp hd hp1 hd1 hW hS
  have F1:=hid f1
  clear f1
  have F2:=hid f2
  clear f2
  have F3:=hid f3
  clear f3
  go_enter Tryz.func49,Tryz.ntmps49
  go_wp2_with (first | (go_at_call 89;first | ((with_reducible refine (within_is F1.out _).mono ?_);rintro e w' ⟨rfl,rfl⟩) | ((with_reducible refine (within_is F2.out _).mono ?_);rintro e w' ⟨rfl,rfl⟩) | ((with_reducible refine (within_is F3.out _).mono ?_);rintro e w' ⟨rfl,rfl⟩)))
  go_ret
  exact ⟨ret_int HE.out.symm,hBW.out.trans (hB.mono (by simp))⟩

set_option maxHeartbeats 1000000 in
set_option maxRecDepth 100000 in
theorem check_4(c:Cup)(v:Value)(w:World)(hv:CupAt w v c)(hS:Small c)(f1:wiB c.sk 1 12=true)(f2:wiB c.ra 1 20=true)(f3:wiB c.be 1 c.ra=true)(f4:wiB c.pts.length 1 60=false):Calls Tryz.prog 49 #[v] w (Ret (.int .i64 (checkP c)) w):=by
  have HE:=hid (show checkP c=2 by unfold checkP;simp [f1,f2,f3,f4])
  obtain ⟨vp,vd,rfl,hp,hd⟩:=hv
  have hB:=Below.refl (w.alloc (cupBox c vp vd)).heap.size (w.alloc (cupBox c vp vd))
  have hW:=(Below.refl w.heap.size w).alloc (Nat.le_refl _) (cupBox c vp vd)
  have hp1:=ints_below hp hW
  have hd1:=rows_below hd hW
  have hS1:=hS.pts
  have hS2:=hS.done
  have H118:=hid (fun W1 (hb:Below (w.alloc (cupBox c vp vd)).heap.size (w.alloc (cupBox c vp vd)) W1)=>all_rows vd c.done 118 _ _ W1 (rows_below hd1 hb) (pred118 w W1 c vp vd c.done hb))
  have H119:=hid (fun W1 (hb:Below (w.alloc (cupBox c vp vd)).heap.size (w.alloc (cupBox c vp vd)) W1)=>all_ints vp c.pts 119 #[] _ W1 (ints_below hp1 hb) (predWithin (enters_of Tryz.func119 (by kernel_rfl) rfl) f119_any))
  have H120:=hid (fun W1 (hb:Below (w.alloc (cupBox c vp vd)).heap.size (w.alloc (cupBox c vp vd)) W1)=>all_rows vd c.done 120 #[] _ W1 (rows_below hd1 hb) (pred120 W1 c.done))
  have H93:=hid (fun W1 (hb:Below (w.alloc (cupBox c vp vd)).heap.size (w.alloc (cupBox c vp vd)) W1)=>falls_any vp c.pts W1 (ints_below hp1 hb) hS.pts)
  obtain ⟨pp,cp,rfl,hp2,hp3,_⟩:=hp.open
  obtain ⟨pd,cd,rfl,hd2,hd3,_⟩:=hd.open
  unfold maxLen at hp3 hd3
  have hBW:=hid hW
  obtain ⟨k0,k1,k2,k3,k4⟩:=box5 hB
  clear hp hd hp1 hd1 hW hS
  have F1:=hid f1
  clear f1
  have F2:=hid f2
  clear f2
  have F3:=hid f3
  clear f3
  have F4:=hid f4
  clear f4
  go_enter Tryz.func49,Tryz.ntmps49
  go_wp2_with (first | (go_at_call 89;first | ((with_reducible refine (within_is F1.out _).mono ?_);rintro e w' ⟨rfl,rfl⟩) | ((with_reducible refine (within_is F2.out _).mono ?_);rintro e w' ⟨rfl,rfl⟩) | ((with_reducible refine (within_is F3.out _).mono ?_);rintro e w' ⟨rfl,rfl⟩) | ((with_reducible refine (within_is F4.out _).mono ?_);rintro e w' ⟨rfl,rfl⟩)))
  go_ret
  exact ⟨ret_int HE.out.symm,hBW.out.trans (hB.mono (by simp))⟩

set_option maxHeartbeats 1000000 in
set_option maxRecDepth 100000 in
theorem check_5(c:Cup)(v:Value)(w:World)(hv:CupAt w v c)(hS:Small c)(f1:wiB c.sk 1 12=true)(f2:wiB c.ra 1 20=true)(f3:wiB c.be 1 c.ra=true)(f4:wiB c.pts.length 1 60=true)(f5:decide (c.ra<c.done.length)=true):Calls Tryz.prog 49 #[v] w (Ret (.int .i64 (checkP c)) w):=by
  have HE:=hid (show checkP c=2 by unfold checkP;simp [f1,f2,f3,f4,f5])
  obtain ⟨vp,vd,rfl,hp,hd⟩:=hv
  have hB:=Below.refl (w.alloc (cupBox c vp vd)).heap.size (w.alloc (cupBox c vp vd))
  have hW:=(Below.refl w.heap.size w).alloc (Nat.le_refl _) (cupBox c vp vd)
  have hp1:=ints_below hp hW
  have hd1:=rows_below hd hW
  have hS1:=hS.pts
  have hS2:=hS.done
  have H118:=hid (fun W1 (hb:Below (w.alloc (cupBox c vp vd)).heap.size (w.alloc (cupBox c vp vd)) W1)=>all_rows vd c.done 118 _ _ W1 (rows_below hd1 hb) (pred118 w W1 c vp vd c.done hb))
  have H119:=hid (fun W1 (hb:Below (w.alloc (cupBox c vp vd)).heap.size (w.alloc (cupBox c vp vd)) W1)=>all_ints vp c.pts 119 #[] _ W1 (ints_below hp1 hb) (predWithin (enters_of Tryz.func119 (by kernel_rfl) rfl) f119_any))
  have H120:=hid (fun W1 (hb:Below (w.alloc (cupBox c vp vd)).heap.size (w.alloc (cupBox c vp vd)) W1)=>all_rows vd c.done 120 #[] _ W1 (rows_below hd1 hb) (pred120 W1 c.done))
  have H93:=hid (fun W1 (hb:Below (w.alloc (cupBox c vp vd)).heap.size (w.alloc (cupBox c vp vd)) W1)=>falls_any vp c.pts W1 (ints_below hp1 hb) hS.pts)
  obtain ⟨pp,cp,rfl,hp2,hp3,_⟩:=hp.open
  obtain ⟨pd,cd,rfl,hd2,hd3,_⟩:=hd.open
  unfold maxLen at hp3 hd3
  have g5:c.ra<(c.done.length:Int):=by simpa using f5
  have hBW:=hid hW
  obtain ⟨k0,k1,k2,k3,k4⟩:=box5 hB
  clear hp hd hp1 hd1 hW hS
  have F1:=hid f1
  clear f1
  have F2:=hid f2
  clear f2
  have F3:=hid f3
  clear f3
  have F4:=hid f4
  clear f4
  clear f5
  go_enter Tryz.func49,Tryz.ntmps49
  go_wp2_with (first | (go_at_call 89;first | ((with_reducible refine (within_is F1.out _).mono ?_);rintro e w' ⟨rfl,rfl⟩) | ((with_reducible refine (within_is F2.out _).mono ?_);rintro e w' ⟨rfl,rfl⟩) | ((with_reducible refine (within_is F3.out _).mono ?_);rintro e w' ⟨rfl,rfl⟩) | ((with_reducible refine (within_is F4.out _).mono ?_);rintro e w' ⟨rfl,rfl⟩)))
  go_ret
  exact ⟨ret_int HE.out.symm,hBW.out.trans (hB.mono (by simp))⟩

set_option maxHeartbeats 1000000 in
set_option maxRecDepth 100000 in
theorem check_6(c:Cup)(v:Value)(w:World)(hv:CupAt w v c)(hS:Small c)(f1:wiB c.sk 1 12=true)(f2:wiB c.ra 1 20=true)(f3:wiB c.be 1 c.ra=true)(f4:wiB c.pts.length 1 60=true)(f5:decide (c.ra<c.done.length)=false)(f6:c.done.all (fun r=>((r.length:Int) == c.sk))=false):Calls Tryz.prog 49 #[v] w (Ret (.int .i64 (checkP c)) w):=by
  have HE:=hid (show checkP c=2 by unfold checkP;simp [f1,f2,f3,f4,f5,f6])
  obtain ⟨vp,vd,rfl,hp,hd⟩:=hv
  have hB:=Below.refl (w.alloc (cupBox c vp vd)).heap.size (w.alloc (cupBox c vp vd))
  have hW:=(Below.refl w.heap.size w).alloc (Nat.le_refl _) (cupBox c vp vd)
  have hp1:=ints_below hp hW
  have hd1:=rows_below hd hW
  have hS1:=hS.pts
  have hS2:=hS.done
  have H118:=hid (fun W1 (hb:Below (w.alloc (cupBox c vp vd)).heap.size (w.alloc (cupBox c vp vd)) W1)=>all_rows vd c.done 118 _ _ W1 (rows_below hd1 hb) (pred118 w W1 c vp vd c.done hb))
  have H119:=hid (fun W1 (hb:Below (w.alloc (cupBox c vp vd)).heap.size (w.alloc (cupBox c vp vd)) W1)=>all_ints vp c.pts 119 #[] _ W1 (ints_below hp1 hb) (predWithin (enters_of Tryz.func119 (by kernel_rfl) rfl) f119_any))
  have H120:=hid (fun W1 (hb:Below (w.alloc (cupBox c vp vd)).heap.size (w.alloc (cupBox c vp vd)) W1)=>all_rows vd c.done 120 #[] _ W1 (rows_below hd1 hb) (pred120 W1 c.done))
  have H93:=hid (fun W1 (hb:Below (w.alloc (cupBox c vp vd)).heap.size (w.alloc (cupBox c vp vd)) W1)=>falls_any vp c.pts W1 (ints_below hp1 hb) hS.pts)
  simp only [f6] at H118
  obtain ⟨pp,cp,rfl,hp2,hp3,_⟩:=hp.open
  obtain ⟨pd,cd,rfl,hd2,hd3,_⟩:=hd.open
  unfold maxLen at hp3 hd3
  have g5:¬ c.ra<(c.done.length:Int):=by simpa using f5
  have hBW:=hid hW
  obtain ⟨k0,k1,k2,k3,k4⟩:=box5 hB
  clear hp hd hp1 hd1 hW hS
  have F1:=hid f1
  clear f1
  have F2:=hid f2
  clear f2
  have F3:=hid f3
  clear f3
  have F4:=hid f4
  clear f4
  clear f5
  clear f6
  go_enter Tryz.func49,Tryz.ntmps49
  go_wp2_with (first | (go_at_call 89;first | ((with_reducible refine (within_is F1.out _).mono ?_);rintro e w' ⟨rfl,rfl⟩) | ((with_reducible refine (within_is F2.out _).mono ?_);rintro e w' ⟨rfl,rfl⟩) | ((with_reducible refine (within_is F3.out _).mono ?_);rintro e w' ⟨rfl,rfl⟩) | ((with_reducible refine (within_is F4.out _).mono ?_);rintro e w' ⟨rfl,rfl⟩)) | (go_at_call 117;first | ((with_reducible refine (H118.out _ hB).mono ?_);rintro e w1 ⟨rfl,hb1⟩;replace hB:=hB.trans (hb1.mono hB.size);clear hb1 k0 k1 k2 k3 k4;obtain ⟨k0,k1,k2,k3,k4⟩:=box5 hB) | ((with_reducible refine (H120.out _ hB).mono ?_);rintro e w1 ⟨rfl,hb1⟩;replace hB:=hB.trans (hb1.mono hB.size);clear hb1 k0 k1 k2 k3 k4;obtain ⟨k0,k1,k2,k3,k4⟩:=box5 hB)))
  go_ret
  exact ⟨ret_int HE.out.symm,hBW.out.trans (hB.mono (by simp))⟩

set_option maxHeartbeats 1000000 in
set_option maxRecDepth 100000 in
theorem check_7(c:Cup)(v:Value)(w:World)(hv:CupAt w v c)(hS:Small c)(f1:wiB c.sk 1 12=true)(f2:wiB c.ra 1 20=true)(f3:wiB c.be 1 c.ra=true)(f4:wiB c.pts.length 1 60=true)(f5:decide (c.ra<c.done.length)=false)(f6:c.done.all (fun r=>((r.length:Int) == c.sk))=true)(f7:c.pts.all (fun n=>wiB n 0 1000)=false):Calls Tryz.prog 49 #[v] w (Ret (.int .i64 (checkP c)) w):=by
  have HE:=hid (show checkP c=3 by unfold checkP;simp [f1,f2,f3,f4,f5,f6,f7])
  obtain ⟨vp,vd,rfl,hp,hd⟩:=hv
  have hB:=Below.refl (w.alloc (cupBox c vp vd)).heap.size (w.alloc (cupBox c vp vd))
  have hW:=(Below.refl w.heap.size w).alloc (Nat.le_refl _) (cupBox c vp vd)
  have hp1:=ints_below hp hW
  have hd1:=rows_below hd hW
  have hS1:=hS.pts
  have hS2:=hS.done
  have H118:=hid (fun W1 (hb:Below (w.alloc (cupBox c vp vd)).heap.size (w.alloc (cupBox c vp vd)) W1)=>all_rows vd c.done 118 _ _ W1 (rows_below hd1 hb) (pred118 w W1 c vp vd c.done hb))
  have H119:=hid (fun W1 (hb:Below (w.alloc (cupBox c vp vd)).heap.size (w.alloc (cupBox c vp vd)) W1)=>all_ints vp c.pts 119 #[] _ W1 (ints_below hp1 hb) (predWithin (enters_of Tryz.func119 (by kernel_rfl) rfl) f119_any))
  have H120:=hid (fun W1 (hb:Below (w.alloc (cupBox c vp vd)).heap.size (w.alloc (cupBox c vp vd)) W1)=>all_rows vd c.done 120 #[] _ W1 (rows_below hd1 hb) (pred120 W1 c.done))
  have H93:=hid (fun W1 (hb:Below (w.alloc (cupBox c vp vd)).heap.size (w.alloc (cupBox c vp vd)) W1)=>falls_any vp c.pts W1 (ints_below hp1 hb) hS.pts)
  simp only [f6] at H118
  simp only [f7] at H119
  obtain ⟨pp,cp,rfl,hp2,hp3,_⟩:=hp.open
  obtain ⟨pd,cd,rfl,hd2,hd3,_⟩:=hd.open
  unfold maxLen at hp3 hd3
  have g5:¬ c.ra<(c.done.length:Int):=by simpa using f5
  have hBW:=hid hW
  obtain ⟨k0,k1,k2,k3,k4⟩:=box5 hB
  clear hp hd hp1 hd1 hW hS
  have F1:=hid f1
  clear f1
  have F2:=hid f2
  clear f2
  have F3:=hid f3
  clear f3
  have F4:=hid f4
  clear f4
  clear f5
  clear f6
  clear f7
  go_enter Tryz.func49,Tryz.ntmps49
  go_wp2_with (first | (go_at_call 89;first | ((with_reducible refine (within_is F1.out _).mono ?_);rintro e w' ⟨rfl,rfl⟩) | ((with_reducible refine (within_is F2.out _).mono ?_);rintro e w' ⟨rfl,rfl⟩) | ((with_reducible refine (within_is F3.out _).mono ?_);rintro e w' ⟨rfl,rfl⟩) | ((with_reducible refine (within_is F4.out _).mono ?_);rintro e w' ⟨rfl,rfl⟩)) | (go_at_call 117;first | ((with_reducible refine (H118.out _ hB).mono ?_);rintro e w1 ⟨rfl,hb1⟩;replace hB:=hB.trans (hb1.mono hB.size);clear hb1 k0 k1 k2 k3 k4;obtain ⟨k0,k1,k2,k3,k4⟩:=box5 hB) | ((with_reducible refine (H120.out _ hB).mono ?_);rintro e w1 ⟨rfl,hb1⟩;replace hB:=hB.trans (hb1.mono hB.size);clear hb1 k0 k1 k2 k3 k4;obtain ⟨k0,k1,k2,k3,k4⟩:=box5 hB)) | (go_at_call 90;refine (H119.out _ hB).mono ?_;rintro e w1 ⟨rfl,hb1⟩;replace hB:=hB.trans (hb1.mono hB.size);clear hb1 k0 k1 k2 k3 k4;obtain ⟨k0,k1,k2,k3,k4⟩:=box5 hB))
  go_ret
  exact ⟨ret_int HE.out.symm,hBW.out.trans (hB.mono (by simp))⟩

set_option maxHeartbeats 1000000 in
set_option maxRecDepth 100000 in
theorem check_8(c:Cup)(v:Value)(w:World)(hv:CupAt w v c)(hS:Small c)(f1:wiB c.sk 1 12=true)(f2:wiB c.ra 1 20=true)(f3:wiB c.be 1 c.ra=true)(f4:wiB c.pts.length 1 60=true)(f5:decide (c.ra<c.done.length)=false)(f6:c.done.all (fun r=>((r.length:Int) == c.sk))=true)(f7:c.pts.all (fun n=>wiB n 0 1000)=true)(f8:c.done.all (fun r=>r.all fun p=>wiB p 0 60)=false):Calls Tryz.prog 49 #[v] w (Ret (.int .i64 (checkP c)) w):=by
  have HE:=hid (show checkP c=3 by unfold checkP;simp [f1,f2,f3,f4,f5,f6,f7,f8])
  obtain ⟨vp,vd,rfl,hp,hd⟩:=hv
  have hB:=Below.refl (w.alloc (cupBox c vp vd)).heap.size (w.alloc (cupBox c vp vd))
  have hW:=(Below.refl w.heap.size w).alloc (Nat.le_refl _) (cupBox c vp vd)
  have hp1:=ints_below hp hW
  have hd1:=rows_below hd hW
  have hS1:=hS.pts
  have hS2:=hS.done
  have H118:=hid (fun W1 (hb:Below (w.alloc (cupBox c vp vd)).heap.size (w.alloc (cupBox c vp vd)) W1)=>all_rows vd c.done 118 _ _ W1 (rows_below hd1 hb) (pred118 w W1 c vp vd c.done hb))
  have H119:=hid (fun W1 (hb:Below (w.alloc (cupBox c vp vd)).heap.size (w.alloc (cupBox c vp vd)) W1)=>all_ints vp c.pts 119 #[] _ W1 (ints_below hp1 hb) (predWithin (enters_of Tryz.func119 (by kernel_rfl) rfl) f119_any))
  have H120:=hid (fun W1 (hb:Below (w.alloc (cupBox c vp vd)).heap.size (w.alloc (cupBox c vp vd)) W1)=>all_rows vd c.done 120 #[] _ W1 (rows_below hd1 hb) (pred120 W1 c.done))
  have H93:=hid (fun W1 (hb:Below (w.alloc (cupBox c vp vd)).heap.size (w.alloc (cupBox c vp vd)) W1)=>falls_any vp c.pts W1 (ints_below hp1 hb) hS.pts)
  simp only [f6] at H118
  simp only [f7] at H119
  simp only [f8] at H120
  obtain ⟨pp,cp,rfl,hp2,hp3,_⟩:=hp.open
  obtain ⟨pd,cd,rfl,hd2,hd3,_⟩:=hd.open
  unfold maxLen at hp3 hd3
  have g5:¬ c.ra<(c.done.length:Int):=by simpa using f5
  have hBW:=hid hW
  obtain ⟨k0,k1,k2,k3,k4⟩:=box5 hB
  clear hp hd hp1 hd1 hW hS
  have F1:=hid f1
  clear f1
  have F2:=hid f2
  clear f2
  have F3:=hid f3
  clear f3
  have F4:=hid f4
  clear f4
  clear f5
  clear f6
  clear f7
  clear f8
  go_enter Tryz.func49,Tryz.ntmps49
  go_wp2_with (first | (go_at_call 89;first | ((with_reducible refine (within_is F1.out _).mono ?_);rintro e w' ⟨rfl,rfl⟩) | ((with_reducible refine (within_is F2.out _).mono ?_);rintro e w' ⟨rfl,rfl⟩) | ((with_reducible refine (within_is F3.out _).mono ?_);rintro e w' ⟨rfl,rfl⟩) | ((with_reducible refine (within_is F4.out _).mono ?_);rintro e w' ⟨rfl,rfl⟩)) | (go_at_call 117;first | ((with_reducible refine (H118.out _ hB).mono ?_);rintro e w1 ⟨rfl,hb1⟩;replace hB:=hB.trans (hb1.mono hB.size);clear hb1 k0 k1 k2 k3 k4;obtain ⟨k0,k1,k2,k3,k4⟩:=box5 hB) | ((with_reducible refine (H120.out _ hB).mono ?_);rintro e w1 ⟨rfl,hb1⟩;replace hB:=hB.trans (hb1.mono hB.size);clear hb1 k0 k1 k2 k3 k4;obtain ⟨k0,k1,k2,k3,k4⟩:=box5 hB)) | (go_at_call 90;refine (H119.out _ hB).mono ?_;rintro e w1 ⟨rfl,hb1⟩;replace hB:=hB.trans (hb1.mono hB.size);clear hb1 k0 k1 k2 k3 k4;obtain ⟨k0,k1,k2,k3,k4⟩:=box5 hB))
  go_ret
  exact ⟨ret_int HE.out.symm,hBW.out.trans (hB.mono (by simp))⟩

set_option maxHeartbeats 1000000 in
set_option maxRecDepth 100000 in
theorem check_9(c:Cup)(v:Value)(w:World)(hv:CupAt w v c)(hS:Small c)(f1:wiB c.sk 1 12=true)(f2:wiB c.ra 1 20=true)(f3:wiB c.be 1 c.ra=true)(f4:wiB c.pts.length 1 60=true)(f5:decide (c.ra<c.done.length)=false)(f6:c.done.all (fun r=>((r.length:Int) == c.sk))=true)(f7:c.pts.all (fun n=>wiB n 0 1000)=true)(f8:c.done.all (fun r=>r.all fun p=>wiB p 0 60)=true)(f9:fallsB c.pts=false):Calls Tryz.prog 49 #[v] w (Ret (.int .i64 (checkP c)) w):=by
  have HE:=hid (show checkP c=4 by unfold checkP;simp [f1,f2,f3,f4,f5,f6,f7,f8,f9])
  obtain ⟨vp,vd,rfl,hp,hd⟩:=hv
  have hB:=Below.refl (w.alloc (cupBox c vp vd)).heap.size (w.alloc (cupBox c vp vd))
  have hW:=(Below.refl w.heap.size w).alloc (Nat.le_refl _) (cupBox c vp vd)
  have hp1:=ints_below hp hW
  have hd1:=rows_below hd hW
  have hS1:=hS.pts
  have hS2:=hS.done
  have H118:=hid (fun W1 (hb:Below (w.alloc (cupBox c vp vd)).heap.size (w.alloc (cupBox c vp vd)) W1)=>all_rows vd c.done 118 _ _ W1 (rows_below hd1 hb) (pred118 w W1 c vp vd c.done hb))
  have H119:=hid (fun W1 (hb:Below (w.alloc (cupBox c vp vd)).heap.size (w.alloc (cupBox c vp vd)) W1)=>all_ints vp c.pts 119 #[] _ W1 (ints_below hp1 hb) (predWithin (enters_of Tryz.func119 (by kernel_rfl) rfl) f119_any))
  have H120:=hid (fun W1 (hb:Below (w.alloc (cupBox c vp vd)).heap.size (w.alloc (cupBox c vp vd)) W1)=>all_rows vd c.done 120 #[] _ W1 (rows_below hd1 hb) (pred120 W1 c.done))
  have H93:=hid (fun W1 (hb:Below (w.alloc (cupBox c vp vd)).heap.size (w.alloc (cupBox c vp vd)) W1)=>falls_any vp c.pts W1 (ints_below hp1 hb) hS.pts)
  have H122:=hid (fun W1 (hb:Below (w.alloc (cupBox c vp vd)).heap.size (w.alloc (cupBox c vp vd)) W1)=>containsFunc_rows vd c.done 123 #[] _ W1 (rows_below hd1 hb) (predClash W1 c.done hS.rows (rows_range f8)))
  simp only [f6] at H118
  simp only [f7] at H119
  simp only [f8] at H120
  rw [f9] at H93
  obtain ⟨pp,cp,rfl,hp2,hp3,_⟩:=hp.open
  obtain ⟨pd,cd,rfl,hd2,hd3,_⟩:=hd.open
  unfold maxLen at hp3 hd3
  have g5:¬ c.ra<(c.done.length:Int):=by simpa using f5
  have hBW:=hid hW
  obtain ⟨k0,k1,k2,k3,k4⟩:=box5 hB
  clear hp hd hp1 hd1 hW hS
  have F1:=hid f1
  clear f1
  have F2:=hid f2
  clear f2
  have F3:=hid f3
  clear f3
  have F4:=hid f4
  clear f4
  clear f5
  clear f6
  clear f7
  clear f8
  clear f9
  go_enter Tryz.func49,Tryz.ntmps49
  go_wp2_with (first | (go_at_call 89;first | ((with_reducible refine (within_is F1.out _).mono ?_);rintro e w' ⟨rfl,rfl⟩) | ((with_reducible refine (within_is F2.out _).mono ?_);rintro e w' ⟨rfl,rfl⟩) | ((with_reducible refine (within_is F3.out _).mono ?_);rintro e w' ⟨rfl,rfl⟩) | ((with_reducible refine (within_is F4.out _).mono ?_);rintro e w' ⟨rfl,rfl⟩)) | (go_at_call 117;first | ((with_reducible refine (H118.out _ hB).mono ?_);rintro e w1 ⟨rfl,hb1⟩;replace hB:=hB.trans (hb1.mono hB.size);clear hb1 k0 k1 k2 k3 k4;obtain ⟨k0,k1,k2,k3,k4⟩:=box5 hB) | ((with_reducible refine (H120.out _ hB).mono ?_);rintro e w1 ⟨rfl,hb1⟩;replace hB:=hB.trans (hb1.mono hB.size);clear hb1 k0 k1 k2 k3 k4;obtain ⟨k0,k1,k2,k3,k4⟩:=box5 hB)) | (go_at_call 90;refine (H119.out _ hB).mono ?_;rintro e w1 ⟨rfl,hb1⟩;replace hB:=hB.trans (hb1.mono hB.size);clear hb1 k0 k1 k2 k3 k4;obtain ⟨k0,k1,k2,k3,k4⟩:=box5 hB) | (go_at_call 93;refine (H93.out _ hB).mono ?_;rintro e w1 ⟨rfl,hb1⟩;replace hB:=hB.trans (hb1.mono hB.size);clear hb1 k0 k1 k2 k3 k4;obtain ⟨k0,k1,k2,k3,k4⟩:=box5 hB))
  go_ret
  exact ⟨ret_int HE.out.symm,hBW.out.trans (hB.mono (by simp))⟩

set_option maxHeartbeats 1000000 in
set_option maxRecDepth 100000 in
theorem check_10(c:Cup)(v:Value)(w:World)(hv:CupAt w v c)(hS:Small c)(f1:wiB c.sk 1 12=true)(f2:wiB c.ra 1 20=true)(f3:wiB c.be 1 c.ra=true)(f4:wiB c.pts.length 1 60=true)(f5:decide (c.ra<c.done.length)=false)(f6:c.done.all (fun r=>((r.length:Int) == c.sk))=true)(f7:c.pts.all (fun n=>wiB n 0 1000)=true)(f8:c.done.all (fun r=>r.all fun p=>wiB p 0 60)=true)(f9:fallsB c.pts=true)(f10:c.done.any clashR=true):Calls Tryz.prog 49 #[v] w (Ret (.int .i64 (checkP c)) w):=by
  have HE:=hid (show checkP c=7 by unfold checkP;simp [f1,f2,f3,f4,f5,f6,f7,f8,f9,f10])
  obtain ⟨vp,vd,rfl,hp,hd⟩:=hv
  have hB:=Below.refl (w.alloc (cupBox c vp vd)).heap.size (w.alloc (cupBox c vp vd))
  have hW:=(Below.refl w.heap.size w).alloc (Nat.le_refl _) (cupBox c vp vd)
  have hp1:=ints_below hp hW
  have hd1:=rows_below hd hW
  have hS1:=hS.pts
  have hS2:=hS.done
  have H118:=hid (fun W1 (hb:Below (w.alloc (cupBox c vp vd)).heap.size (w.alloc (cupBox c vp vd)) W1)=>all_rows vd c.done 118 _ _ W1 (rows_below hd1 hb) (pred118 w W1 c vp vd c.done hb))
  have H119:=hid (fun W1 (hb:Below (w.alloc (cupBox c vp vd)).heap.size (w.alloc (cupBox c vp vd)) W1)=>all_ints vp c.pts 119 #[] _ W1 (ints_below hp1 hb) (predWithin (enters_of Tryz.func119 (by kernel_rfl) rfl) f119_any))
  have H120:=hid (fun W1 (hb:Below (w.alloc (cupBox c vp vd)).heap.size (w.alloc (cupBox c vp vd)) W1)=>all_rows vd c.done 120 #[] _ W1 (rows_below hd1 hb) (pred120 W1 c.done))
  have H93:=hid (fun W1 (hb:Below (w.alloc (cupBox c vp vd)).heap.size (w.alloc (cupBox c vp vd)) W1)=>falls_any vp c.pts W1 (ints_below hp1 hb) hS.pts)
  have H122:=hid (fun W1 (hb:Below (w.alloc (cupBox c vp vd)).heap.size (w.alloc (cupBox c vp vd)) W1)=>containsFunc_rows vd c.done 123 #[] _ W1 (rows_below hd1 hb) (predClash W1 c.done hS.rows (rows_range f8)))
  simp only [f6] at H118
  simp only [f7] at H119
  simp only [f8] at H120
  rw [f9] at H93
  simp only [f10] at H122
  obtain ⟨pp,cp,rfl,hp2,hp3,_⟩:=hp.open
  obtain ⟨pd,cd,rfl,hd2,hd3,_⟩:=hd.open
  unfold maxLen at hp3 hd3
  have g5:¬ c.ra<(c.done.length:Int):=by simpa using f5
  have hBW:=hid hW
  obtain ⟨k0,k1,k2,k3,k4⟩:=box5 hB
  clear hp hd hp1 hd1 hW hS
  have F1:=hid f1
  clear f1
  have F2:=hid f2
  clear f2
  have F3:=hid f3
  clear f3
  have F4:=hid f4
  clear f4
  clear f5
  clear f6
  clear f7
  clear f8
  clear f9
  clear f10
  go_enter Tryz.func49,Tryz.ntmps49
  go_wp2_with (first | (go_at_call 89;first | ((with_reducible refine (within_is F1.out _).mono ?_);rintro e w' ⟨rfl,rfl⟩) | ((with_reducible refine (within_is F2.out _).mono ?_);rintro e w' ⟨rfl,rfl⟩) | ((with_reducible refine (within_is F3.out _).mono ?_);rintro e w' ⟨rfl,rfl⟩) | ((with_reducible refine (within_is F4.out _).mono ?_);rintro e w' ⟨rfl,rfl⟩)) | (go_at_call 117;first | ((with_reducible refine (H118.out _ hB).mono ?_);rintro e w1 ⟨rfl,hb1⟩;replace hB:=hB.trans (hb1.mono hB.size);clear hb1 k0 k1 k2 k3 k4;obtain ⟨k0,k1,k2,k3,k4⟩:=box5 hB) | ((with_reducible refine (H120.out _ hB).mono ?_);rintro e w1 ⟨rfl,hb1⟩;replace hB:=hB.trans (hb1.mono hB.size);clear hb1 k0 k1 k2 k3 k4;obtain ⟨k0,k1,k2,k3,k4⟩:=box5 hB)) | (go_at_call 90;refine (H119.out _ hB).mono ?_;rintro e w1 ⟨rfl,hb1⟩;replace hB:=hB.trans (hb1.mono hB.size);clear hb1 k0 k1 k2 k3 k4;obtain ⟨k0,k1,k2,k3,k4⟩:=box5 hB) | (go_at_call 93;refine (H93.out _ hB).mono ?_;rintro e w1 ⟨rfl,hb1⟩;replace hB:=hB.trans (hb1.mono hB.size);clear hb1 k0 k1 k2 k3 k4;obtain ⟨k0,k1,k2,k3,k4⟩:=box5 hB) | (go_at_call 122;refine (H122.out _ hB).mono ?_;rintro e w1 ⟨rfl,hb1⟩;replace hB:=hB.trans (hb1.mono hB.size);clear hb1 k0 k1 k2 k3 k4;obtain ⟨k0,k1,k2,k3,k4⟩:=box5 hB))
  go_ret
  exact ⟨ret_int HE.out.symm,hBW.out.trans (hB.mono (by simp))⟩

set_option maxHeartbeats 1000000 in
set_option maxRecDepth 100000 in
theorem check_11(c:Cup)(v:Value)(w:World)(hv:CupAt w v c)(hS:Small c)(f1:wiB c.sk 1 12=true)(f2:wiB c.ra 1 20=true)(f3:wiB c.be 1 c.ra=true)(f4:wiB c.pts.length 1 60=true)(f5:decide (c.ra<c.done.length)=false)(f6:c.done.all (fun r=>((r.length:Int) == c.sk))=true)(f7:c.pts.all (fun n=>wiB n 0 1000)=true)(f8:c.done.all (fun r=>r.all fun p=>wiB p 0 60)=true)(f9:fallsB c.pts=true)(f10:c.done.any clashR=false):Calls Tryz.prog 49 #[v] w (Ret (.int .i64 (checkP c)) w):=by
  have HE:=hid (show checkP c=0 by unfold checkP;simp [f1,f2,f3,f4,f5,f6,f7,f8,f9,f10])
  obtain ⟨vp,vd,rfl,hp,hd⟩:=hv
  have hB:=Below.refl (w.alloc (cupBox c vp vd)).heap.size (w.alloc (cupBox c vp vd))
  have hW:=(Below.refl w.heap.size w).alloc (Nat.le_refl _) (cupBox c vp vd)
  have hp1:=ints_below hp hW
  have hd1:=rows_below hd hW
  have hS1:=hS.pts
  have hS2:=hS.done
  have H118:=hid (fun W1 (hb:Below (w.alloc (cupBox c vp vd)).heap.size (w.alloc (cupBox c vp vd)) W1)=>all_rows vd c.done 118 _ _ W1 (rows_below hd1 hb) (pred118 w W1 c vp vd c.done hb))
  have H119:=hid (fun W1 (hb:Below (w.alloc (cupBox c vp vd)).heap.size (w.alloc (cupBox c vp vd)) W1)=>all_ints vp c.pts 119 #[] _ W1 (ints_below hp1 hb) (predWithin (enters_of Tryz.func119 (by kernel_rfl) rfl) f119_any))
  have H120:=hid (fun W1 (hb:Below (w.alloc (cupBox c vp vd)).heap.size (w.alloc (cupBox c vp vd)) W1)=>all_rows vd c.done 120 #[] _ W1 (rows_below hd1 hb) (pred120 W1 c.done))
  have H93:=hid (fun W1 (hb:Below (w.alloc (cupBox c vp vd)).heap.size (w.alloc (cupBox c vp vd)) W1)=>falls_any vp c.pts W1 (ints_below hp1 hb) hS.pts)
  have H122:=hid (fun W1 (hb:Below (w.alloc (cupBox c vp vd)).heap.size (w.alloc (cupBox c vp vd)) W1)=>containsFunc_rows vd c.done 123 #[] _ W1 (rows_below hd1 hb) (predClash W1 c.done hS.rows (rows_range f8)))
  simp only [f6] at H118
  simp only [f7] at H119
  simp only [f8] at H120
  rw [f9] at H93
  simp only [f10] at H122
  obtain ⟨pp,cp,rfl,hp2,hp3,_⟩:=hp.open
  obtain ⟨pd,cd,rfl,hd2,hd3,_⟩:=hd.open
  unfold maxLen at hp3 hd3
  have g5:¬ c.ra<(c.done.length:Int):=by simpa using f5
  have hBW:=hid hW
  obtain ⟨k0,k1,k2,k3,k4⟩:=box5 hB
  clear hp hd hp1 hd1 hW hS
  have F1:=hid f1
  clear f1
  have F2:=hid f2
  clear f2
  have F3:=hid f3
  clear f3
  have F4:=hid f4
  clear f4
  clear f5
  clear f6
  clear f7
  clear f8
  clear f9
  clear f10
  go_enter Tryz.func49,Tryz.ntmps49
  go_wp2_with (first | (go_at_call 89;first | ((with_reducible refine (within_is F1.out _).mono ?_);rintro e w' ⟨rfl,rfl⟩) | ((with_reducible refine (within_is F2.out _).mono ?_);rintro e w' ⟨rfl,rfl⟩) | ((with_reducible refine (within_is F3.out _).mono ?_);rintro e w' ⟨rfl,rfl⟩) | ((with_reducible refine (within_is F4.out _).mono ?_);rintro e w' ⟨rfl,rfl⟩)) | (go_at_call 117;first | ((with_reducible refine (H118.out _ hB).mono ?_);rintro e w1 ⟨rfl,hb1⟩;replace hB:=hB.trans (hb1.mono hB.size);clear hb1 k0 k1 k2 k3 k4;obtain ⟨k0,k1,k2,k3,k4⟩:=box5 hB) | ((with_reducible refine (H120.out _ hB).mono ?_);rintro e w1 ⟨rfl,hb1⟩;replace hB:=hB.trans (hb1.mono hB.size);clear hb1 k0 k1 k2 k3 k4;obtain ⟨k0,k1,k2,k3,k4⟩:=box5 hB)) | (go_at_call 90;refine (H119.out _ hB).mono ?_;rintro e w1 ⟨rfl,hb1⟩;replace hB:=hB.trans (hb1.mono hB.size);clear hb1 k0 k1 k2 k3 k4;obtain ⟨k0,k1,k2,k3,k4⟩:=box5 hB) | (go_at_call 93;refine (H93.out _ hB).mono ?_;rintro e w1 ⟨rfl,hb1⟩;replace hB:=hB.trans (hb1.mono hB.size);clear hb1 k0 k1 k2 k3 k4;obtain ⟨k0,k1,k2,k3,k4⟩:=box5 hB) | (go_at_call 122;refine (H122.out _ hB).mono ?_;rintro e w1 ⟨rfl,hb1⟩;replace hB:=hB.trans (hb1.mono hB.size);clear hb1 k0 k1 k2 k3 k4;obtain ⟨k0,k1,k2,k3,k4⟩:=box5 hB))
  go_ret
  exact ⟨ret_int HE.out.symm,hBW.out.trans (hB.mono (by simp))⟩

theorem check_any(c:Cup)(v:Value)(w:World)(hv:CupAt w v c)(hS:Small c):Calls Tryz.prog 49 #[v] w (Ret (.int .i64 (checkP c)) w):=by
  cases f1:wiB c.sk 1 12 with
  | false=>exact check_1 c v w hv hS f1
  | true =>
    cases f2:wiB c.ra 1 20 with
    | false=>exact check_2 c v w hv hS f1 f2
    | true =>
      cases f3:wiB c.be 1 c.ra with
      | false=>exact check_3 c v w hv hS f1 f2 f3
      | true =>
        cases f4:wiB c.pts.length 1 60 with
        | false=>exact check_4 c v w hv hS f1 f2 f3 f4
        | true =>
          cases f5:decide (c.ra<c.done.length) with
          | true=>exact check_5 c v w hv hS f1 f2 f3 f4 f5
          | false =>
            cases f6:c.done.all (fun r=>((r.length:Int) == c.sk)) with
            | false=>exact check_6 c v w hv hS f1 f2 f3 f4 f5 f6
            | true =>
              cases f7:c.pts.all (fun n=>wiB n 0 1000) with
              | false=>exact check_7 c v w hv hS f1 f2 f3 f4 f5 f6 f7
              | true =>
                cases f8:c.done.all (fun r=>r.all fun p=>wiB p 0 60) with
                | false=>exact check_8 c v w hv hS f1 f2 f3 f4 f5 f6 f7 f8
                | true =>
                  cases f9:fallsB c.pts with
                  | false=>exact check_9 c v w hv hS f1 f2 f3 f4 f5 f6 f7 f8 f9
                  | true =>
                    cases f10:c.done.any clashR with
                    | true=>exact check_10 c v w hv hS f1 f2 f3 f4 f5 f6 f7 f8 f9 f10
                    | false =>
                      exact check_11 c v w hv hS f1 f2 f3 f4 f5 f6 f7 f8 f9 f10
end KL
end Go.Proofs
end
section
namespace Go.Proofs
open Go.RowKit Go.Lib Go.Sort
namespace KL

structure Valid (c:Cup):Prop where
  sk1:1≤c.sk
  sk2:c.sk≤12
  ra1:1≤c.ra
  ra2:c.ra≤20
  be1:1≤c.be
  be2:c.be≤c.ra
  pt1:1≤c.pts.length
  pt2:c.pts.length≤60
  dn:(c.done.length:Int)≤c.ra
  len:∀ r∈c.done,(r.length:Int)=c.sk
  pts:∀ x∈c.pts,0≤x∧x≤1000
  rows:∀ r∈c.done,∀ x∈r,0≤x∧x≤60
  falls:fallsB c.pts=true
  clash:c.done.any clashR=false

theorem wiB_iff{n lo hi:Int}:wiB n lo hi=true↔lo≤n∧n≤hi:=by unfold wiB;rw [decide_eq_true_iff]

theorem valid_iff(c:Cup):checkP c=0↔Valid c:=by
  constructor
  · intro h
    unfold checkP at h
    split at h
    · cases h
    rename_i h1
    split at h
    · cases h
    rename_i h2
    split at h
    · cases h
    rename_i h3
    split at h
    · cases h
    rename_i h4
    split at h
    · cases h
    rename_i h5
    simp only [Bool.not_eq_true,Bool.or_eq_false_iff,Bool.not_eq_false',decide_eq_false_iff_not] at h1 h2 h3 h4 h5
    obtain ⟨⟨a1,a2⟩,a3⟩:=h1
    obtain ⟨⟨b1,b2⟩,b3⟩:=h2
    obtain ⟨c1,c2⟩:=h3
    rw [wiB_iff] at a1 a2 a3 b1
    rw [List.all_eq_true] at b3 c1 c2
    refine ⟨a1.1,a1.2,a2.1,a2.2,a3.1,a3.2,by omega,by omega,by omega,fun r hr=>by simpa using b3 r hr,fun x hx=>wiB_iff.1 (c1 x hx),fun r hr x hx => ?_,h4,h5⟩
    have:=c2 r hr
    rw [List.all_eq_true] at this
    exact wiB_iff.1 (this x hx)
  · intro v
    have a1:wiB c.sk 1 12=true:=wiB_iff.2 ⟨v.sk1,v.sk2⟩
    have a2:wiB c.ra 1 20=true:=wiB_iff.2 ⟨v.ra1,v.ra2⟩
    have a3:wiB c.be 1 c.ra=true:=wiB_iff.2 ⟨v.be1,v.be2⟩
    have a4:wiB c.pts.length 1 60=true:=wiB_iff.2 (by have:=v.pt1;have:=v.pt2;omega)
    have a5:decide (c.ra<c.done.length)=false:=by rw [decide_eq_false_iff_not];have:=v.dn;omega
    have a6:c.done.all (fun r=>((r.length:Int) == c.sk))=true:=by rw [List.all_eq_true];intro r hr;simpa using v.len r hr
    have a7:c.pts.all (fun n=>wiB n 0 1000)=true:=by rw [List.all_eq_true];intro r hr;exact wiB_iff.2 (v.pts r hr)
    have a8:c.done.all (fun r=>r.all fun p=>wiB p 0 60)=true:=by
      rw [List.all_eq_true];intro r hr;rw [List.all_eq_true];intro x hx;exact wiB_iff.2 (v.rows r hr x hx)
    unfold checkP
    rw [a1,a2,a3,a4,a5,a6,a7,a8,v.falls,v.clash]
    rfl

theorem Valid.small{c:Cup}(v:Valid c):Small c :=
  ⟨by have:=v.pt2;omega,by have:=v.dn;have:=v.ra2;omega,fun r hr=>by have:=v.len r hr;have:=v.sk2;omega⟩

theorem sumR_eq(l:List Int):∀ (a:Int) (n:Nat),0≤a→a≤1000*n→n+l.length≤1000000→(∀ x∈l,0≤x∧x≤1000)→l.foldl (fun a x=>wrap64 (a+x)) a=a+l.sum:=by
  induction l with
  | nil=>intro a n _ _ _ _;simp
  | cons x r ih =>
    intro a n h0 h1 h2 h3
    have hx:=h3 x (by simp)
    simp only [List.length_cons] at h2
    have hw:wrap64 (a+x)=a+x:=by unfold wrap64;omega
    rw [List.foldl_cons,hw,ih (a+x) (n+1) (by omega) (by omega) (by omega) (fun y hy=>h3 y (by simp [hy])),List.sum_cons]
    omega

theorem sumR_of(l:List Int)(hl:l.length≤1000)(h:∀ x∈l,0≤x∧x≤1000):sumR l=l.sum:=by
  unfold sumR
  rw [sumR_eq l 0 0 (by omega) (by omega) (by omega) h]
  omega

theorem sum_bd(l:List Int)(h:∀ x∈l,0≤x∧x≤1000):0≤l.sum∧l.sum≤1000*l.length:=by
  induction l with
  | nil=>simp
  | cons x r ih =>
    have hx:=h x (by simp)
    have:=ih (fun y hy=>h y (by simp [hy]))
    simp only [List.sum_cons,List.length_cons]
    omega

def worthM(pts:List Int)(place many:Nat):Int:=((pts.drop (place-1)).take many).sum

theorem worthM_bd(pts:List Int)(place many:Nat)(h:∀ x∈pts,0≤x∧x≤1000):0≤worthM pts place many∧worthM pts place many≤1000*many:=by
  have:=sum_bd ((pts.drop (place-1)).take many) (fun x hx=>h x (List.mem_of_mem_drop (List.mem_of_mem_take hx)))
  have hl:((pts.drop (place-1)).take many).length≤many:=List.length_take_le _ _
  unfold worthM
  omega

theorem worthM_some(pts:List Int)(place many:Nat)(last:Int)(hpl:pts.length≤1000)(hpr:∀ x∈pts,0≤x∧x≤1000)(hp:1≤place)(h:last=min (pts.length:Int) ((place:Int)-1+many))(h2:(place:Int)≤last)(l':List Int)
    (hl':l'=(pts.drop ((place:Int)-1).toNat).take (last.toNat-((place:Int)-1).toNat)):sumR l'=worthM pts place many:=by
  have e1:((place:Int)-1).toNat=place-1:=by omega
  rw [e1] at hl'
  have e2:l'=(pts.drop (place-1)).take many:=by
    rw [hl']
    by_cases hc:(place:Int)-1+many≤pts.length
    · rw [show last.toNat-(place-1)=many by omega]
    · rw [List.take_of_length_le (by simp;omega),List.take_of_length_le (by simp;omega)]
  rw [e2]
  refine sumR_of _ ?_ ?_
  · have:((pts.drop (place-1)).take many).length≤pts.length:=by simp;omega
    omega
  · intro x hx
    exact hpr x (List.mem_of_mem_drop (List.mem_of_mem_take hx))

theorem worthM_none(pts:List Int)(place many:Nat)(hp:1≤place)(h2:¬ (place:Int)≤min (pts.length:Int) ((place:Int)-1+many)):worthM pts place many=0:=by
  unfold worthM
  by_cases hm:many=0
  · simp [hm]
  · rw [List.drop_of_length_le (by omega)];simp

set_option maxHeartbeats 400000 in
theorem worth_any(sk ra be:Int)(vp vd:Value)(pts:List Int)(place many:Nat)(w:World)(hv:Ints w vp pts)(hpl:pts.length≤1000)(hpr:∀ x∈pts,0≤x∧x≤1000)(hp:1≤place)(hp2:place≤1000)(hm2:many≤1000) :
    Calls Tryz.prog 147 #[.agg #[.int .i64 sk,.int .i64 ra,.int .i64 be,vp,vd],.int .i64 place,.int .i64 many] w (Ret (.int .i64 (worthM pts place many)) w):=by
  have hbel:=(Below.refl w.heap.size w).alloc (Nat.le_refl _) (.cells #[.int .i64 sk,.int .i64 ra,.int .i64 be,vp,vd] 25)
  have HV:=hid (ints_below hv hbel)
  obtain ⟨p,cap,rfl,hlc,hcm,hc⟩:=hv.open
  unfold maxLen at hcm
  clear hc hv
  by_cases hlast:(place:Int)-1+many<(pts.length:Int)
  all_goals
    by_cases hle:(place:Int)≤min (pts.length:Int) ((place:Int)-1+many)
    · have HLE:=hid hle
      have HS:=hid (fun last h=>worthM_some pts place many last hpl hpr hp h)
      have hmin:min (pts.length:Int) ((place:Int)-1+many)=(if (place:Int)-1+many<(pts.length:Int) then (place:Int)-1+many else (pts.length:Int)):=by split <;> omega
      rw [hmin] at hle
      clear hmin hpr
      simp only [hlast,if_true,if_false] at hle
      go_enter Tryz.func147,Tryz.ntmps147
      go_wp2_with (first | ((with_reducible apply wpL_slice (hv:=HV.out) (hu:=Tryz.underlying22) (hs:=info3));rfl;rfl;rfl;omega;omega;omega;intro v' l' hl' hv';have HV':=hid hv';have HL:=hid hl';clear hv' hl') | (go_at_call 98;refine (sum_any _ _ _ HV'.out).mono ?_;rintro e w1 ⟨rfl,rfl⟩))
      go_ret
      exact ⟨ret_int (HS.out _ rfl HLE.out _ HL.out),hbel⟩
    · have HS':=hid (worthM_none pts place many hp hle)
      have hle':¬ (place:Int)≤(if (place:Int)-1+many<(pts.length:Int) then (place:Int)-1+many else (pts.length:Int)):=by split <;> omega
      clear hle hpr
      simp only [hlast,if_true,if_false] at hle'
      go_enter Tryz.func147,Tryz.ntmps147
      go_wp2
      go_ret
      exact ⟨ret_int HS'.out.symm,hbel⟩

def scoreM(pts race:List Int)(s:Nat):Int :=
  if race.getD s 0=0 then 0 else worthM pts (race.getD s 0).toNat (race.count (race.getD s 0)) / (race.count (race.getD s 0):Int)

theorem count_snoc(l:List Int)(p:Int)(k:Nat)(h:k<l.length):(l.take (k+1)).count p=(l.take k).count p+if l[k]=p then 1 else 0:=by
  rw [List.take_succ_eq_append_getElem h,List.count_append,List.count_singleton]
  simp

set_option maxHeartbeats 400000 in
theorem points_any(sk ra be:Int)(vp vd vr:Value)(pts race:List Int)(s:Nat)(w:World)(hv:Ints w vp pts)(hpl:pts.length≤1000)(hpr:∀ x∈pts,0≤x∧x≤1000)
    (hr:Ints w vr race) (hrl:race.length≤1000) (hrr:∀ x∈race,0≤x∧x≤60) (hs:s<race.length) :
    Calls Tryz.prog 102 #[.agg #[.int .i64 sk,.int .i64 ra,.int .i64 be,vp,vd],vr,.int .i64 s] w (Ret (.int .i64 (scoreM pts race s)) w):=by
  have hbel:=(Below.refl w.heap.size w).alloc (Nat.le_refl _) (.cells #[.int .i64 sk,.int .i64 ra,.int .i64 be,vp,vd] 25)
  have HV:=hid (ints_below hv hbel)
  have hr1:=ints_below hr hbel
  obtain ⟨p,cap,rfl,hlc,hcm,hc⟩:=hr.open
  obtain ⟨_,_,he,_,_,hc1⟩:=hr1.open
  injection he with e1 e2 e3
  subst e1 e3
  unfold maxLen at hcm
  obtain ⟨b,o,rfl,hs1⟩:=hc1 s hs
  have hx:=hrr race[s] (by simp)
  have hg:=getD_at race s hs
  have hcnt:race.count race[s]≤race.length:=List.count_le_length
  have hcnt1:1≤race.count race[s]:=List.count_pos_iff.2 (by simp)
  have hwd:scoreM pts race s=if race[s]=0 then 0 else worthM pts race[s].toNat (race.count race[s]) / (race.count race[s]:Int):=by
    unfold scoreM;rw [hg]
  generalize race[s]=x at *
  have HWD:=hid hwd
  have i1:(s:Int)<race.length:=by omega
  clear hg hwd hv hr hr1 hc e2 hrr
  by_cases hx0:x=0
  · have HE:=hid (show scoreM pts race s=0 by rw [HWD.out,if_pos hx0])
    have hb0:(x == 0)=true:=by simp [hx0]
    have hxx:=hid hx0
    clear hx0 hc1
    go_enter Tryz.func102,Tryz.ntmps102
    go_wp2
    go_ret
    exact ⟨ret_int HE.out.symm,hbel⟩
  · have HE:=hid (show scoreM pts race s=worthM pts x.toNat (race.count x) / (race.count x:Int) by rw [HWD.out,if_neg hx0])
    have hb0:(x == 0)=false:=by simp [hx0]
    obtain ⟨xn,rfl⟩:∃ n:Nat,x=n:=⟨x.toNat,by omega⟩
    have hwn:=worthM_bd pts xn (race.count (xn:Int)) hpr
    have HPR:=hid hpr
    clear hpr
    go_enter Tryz.func102,Tryz.ntmps102
    go_wp2
    go_loop [8,19] (fun m i=>∃ k:Nat,k≤race.length∧i = .int .i64 k∧m = .int .i64 ((race.take k).count (xn:Int):Nat)) (fun _ i=>race.length-(intOf i).toNat)
    case atStart=>exact ⟨0,Nat.zero_le _,rfl,by simp⟩
    case round =>
      obtain ⟨k,hk,rfl,rfl⟩:=hrel
      by_cases hlt:k<race.length
      · obtain ⟨b',o',hb',hcell⟩:=hc1 k hlt
        cases hb'
        have hle:(race.take k).count (xn:Int)≤(race.take k).length:=List.count_le_length
        have hle2:(race.take k).length≤k:=List.length_take_le _ _
        have HS:=hid (count_snoc race xn k hlt)
        generalize (race.take k).count (xn:Int)=cc at *
        generalize race[k]=y at *
        have i2:(k:Int)<race.length:=by omega
        clear hc1
        by_cases hy:y=xn
        · have hyb:(y == (xn:Int))=true:=by simp [hy]
          have hyy:=hid hy
          clear hy
          go_wp2
          go_round
          case rel=>exact ⟨k+1,by omega,by go_num,by rw [HS.out,if_pos hyy.out];go_num⟩
          case measure=>simp [intOf];omega
        · have hyb:(y == (xn:Int))=false:=by simp [hy]
          have hyy:=hid hy
          clear hy
          go_wp2
          go_round
          case rel=>exact ⟨k+1,by omega,by go_num,by rw [HS.out,if_neg hyy.out];go_num⟩
          case measure=>simp [intOf];omega
      · have ht:race.take k=race:=List.take_of_length_le (by omega)
        rw [ht] at *
        generalize hcc:race.count (xn:Int)=cc at *
        have HCC:=hid hcc
        obtain ⟨hwn1,hwn2⟩:=hwn
        clear hc1 ht hcc
        go_wp2_with (go_at_call 147;refine (worth_any sk ra be vp vd pts xn cc _ HV.out hpl HPR.out (by omega) (by omega) (by omega)).mono ?_;rintro e w1 ⟨rfl,hb1⟩)
        go_ret
        exact ⟨ret_int (by rw [HE.out];congr 1),hbel.trans (hb1.mono (by simp))⟩
end KL
end Go.Proofs
end
section
namespace Go.Proofs
namespace KL
section
variable {α:Type}

def mv(A:List α)(x:α)(j:Nat)(R:List α):List α:=A.take j++x::(A.drop j++R)

theorem mv_length(A:List α)(x:α)(j:Nat)(R:List α)(hj:j≤A.length):(mv A x j R).length=A.length+1+R.length:=by
  unfold mv;simp;omega

theorem mv_get(A:List α)(x:α)(j:Nat)(R:List α)(hj:j≤A.length)(t:Nat) :
    (mv A x j R)[t]? = if t<j then A[t]? else if t=j then some x else if t≤A.length then A[t-1]? else R[t-A.length-1]? := by
  unfold mv
  by_cases h1:t<j
  · rw [if_pos h1,List.getElem?_append_left (by simp;omega),List.getElem?_take_of_lt h1]
  · rw [if_neg h1,List.getElem?_append_right (by simp;omega)]
    have hl:(A.take j).length=j:=by simp;omega
    rw [hl]
    by_cases h2:t=j
    · rw [if_pos h2,show t-j=0 by omega];rfl
    · rw [if_neg h2,show t-j=(t-j-1)+1 by omega,List.getElem?_cons_succ]
      by_cases h3:t≤A.length
      · rw [if_pos h3,List.getElem?_append_left (by simp;omega),List.getElem?_drop]
        congr 1;omega
      · rw [if_neg h3,List.getElem?_append_right (by simp;omega)]
        congr 1
        simp;omega

theorem mv_swap(A:List α)(x:α)(j:Nat)(R:List α)(hj:j≤A.length)(h0:0<j)(y:α)(hy:A[j-1]? = some y) :
    ((mv A x j R).set j y).set (j-1) x=mv A x (j-1) R:=by
  have hl:=mv_length A x j R hj
  apply List.ext_getElem?
  intro t
  rw [List.getElem?_set,List.getElem?_set,mv_get A x (j-1) R (by omega),mv_get A x j R hj]
  simp only [List.length_set,hl]
  by_cases h1:j-1=t
  · subst h1
    rw [if_pos rfl,if_pos (by omega),if_neg (by omega),if_pos rfl]
  · rw [if_neg h1]
    by_cases h2:j=t
    · subst h2
      rw [if_pos rfl,if_pos (by omega),if_neg (by omega),if_neg (by omega),if_pos (by omega),hy]
    · rw [if_neg h2]
      by_cases h3:t<j
      · rw [if_pos h3,if_pos (by omega)]
      · rw [if_neg h3,if_neg (by omega:¬ t=j),if_neg (by omega:¬ t<j-1),if_neg (by omega:¬ t=j-1)]

def insPos(lt:α→α→Bool)(x:α)(A:List α):Nat:=(A.reverse.dropWhile (lt x)).length
def ins(lt:α→α→Bool)(A:List α)(x:α):List α:=A.take (insPos lt x A)++x::A.drop (insPos lt x A)
def isort(lt:α→α→Bool)(l:List α):List α:=l.foldl (ins lt) []

theorem dropWhile_all_append{p:α→Bool}:∀ (l r:List α),(∀ x∈l,p x=true)→(l++r).dropWhile p=r.dropWhile p
  | [],_,_=>rfl
  | x::l,r,h=>by
    rw [List.cons_append,List.dropWhile_cons,if_pos (h x (by simp))]
    exact dropWhile_all_append l r (fun y hy=>h y (by simp [hy]))

theorem insPos_eq(lt:α→α→Bool)(x:α)(A:List α)(j:Nat)(hj:j≤A.length)(h:∀ t (_:t<A.length),j≤t→lt x A[t]=true)
    (h2:j=0∨∃ y,A[j-1]? = some y∧lt x y=false):insPos lt x A=j:=by
  unfold insPos
  have e:A.reverse=(A.drop j).reverse++(A.take j).reverse:=by rw [← List.reverse_append,List.take_append_drop]
  rw [e,dropWhile_all_append]
  · rcases h2 with h0 | ⟨y,hy,hlt⟩
    · subst h0;simp
    · by_cases h0:j=0
      · subst h0;simp
      · have e2:A.take j=A.take (j-1)++[y]:=by
          rw [show j=(j-1)+1 by omega,List.take_add_one,Nat.add_sub_cancel,hy];rfl
        have hl:(A.take (j-1)).length=j-1:=by simp;omega
        rw [e2,List.reverse_append]
        show ((y::(A.take (j-1)).reverse).dropWhile (lt x)).length=j
        rw [List.dropWhile_cons,hlt]
        simp;omega
  · intro z hz
    rw [List.mem_reverse] at hz
    obtain ⟨t,ht,rfl⟩:=List.getElem_of_mem hz
    rw [List.getElem_drop]
    exact h (j+t) (by simp at ht;omega) (by omega)

theorem ins_length(lt:α→α→Bool)(A:List α)(x:α):(ins lt A x).length=A.length+1:=by
  unfold ins
  simp
  have:insPos lt x A≤A.length:=by
    unfold insPos
    have h2:((A.reverse).dropWhile (lt x)).length≤A.reverse.length:=(List.dropWhile_sublist _).length_le
    simpa using h2
  omega

theorem mv_end(A:List α)(x:α)(R:List α):mv A x A.length R=A++x::R:=by unfold mv;simp
theorem mv_ins(lt:α→α→Bool)(A:List α)(x:α)(R:List α):mv A x (insPos lt x A) R=ins lt A x++R:=by unfold mv ins;simp

theorem isort_length(lt:α→α→Bool)(l:List α):(isort lt l).length=l.length:=by
  unfold isort
  have:∀ (l A:List α),(l.foldl (ins lt) A).length=A.length+l.length:=by
    intro l
    induction l with
    | nil=>intro A;simp
    | cons x r ih=>intro A;rw [List.foldl_cons,ih,ins_length];simp;omega
  rw [this];simp

theorem isort_snoc(lt:α→α→Bool)(l:List α)(k:Nat)(h:k<l.length):isort lt (l.take (k+1))=ins lt (isort lt (l.take k)) l[k]:=by
  unfold isort
  rw [List.take_succ_eq_append_getElem h,List.foldl_append]
  rfl
end
end KL
end Go.Proofs
end
section
namespace Go.Proofs
open Go.RowKit Go.Lib Go.Sort
namespace KL

structure CmpOn {α:Type} (P:Program) (g:FuncId) (lb:Array Value) (enc:α→Value) (cmp:α→α→Int) (S:α→Prop) (w:World) (b:Nat):Prop where
  enters:∀ args W,(callFunc g args).run P W = .ok (.enter g args) W
  gives:∀ W x y,S x→S y→w.grownBy W (some b)→Calls P g (#[enc x,enc y]++lb) W (Ret (.int .i64 (cmp x y)) W)

theorem grown_then_below{w wr W:World}{row:Option Nat}(h:w.grownBy wr row)(hb:Below wr.heap.size wr W):w.grownBy W row :=
  ⟨hb.os.trans h.os,hb.tape.trans h.tape,hb.output.trans h.output,Nat.le_trans h.size hb.size,fun k hk hne=>(hb.block k (Nat.lt_of_lt_of_le hk h.size)).trans (h.block k hk hne)⟩

theorem grown_then{w wr W:World}{row:Option Nat}(h:w.grownBy wr row)(hb:wr.grownBy W row):w.grownBy W row :=
  ⟨hb.os.trans h.os,hb.tape.trans h.tape,hb.output.trans h.output,Nat.le_trans h.size hb.size,fun k hk hne=>(hb.block k (Nat.lt_of_lt_of_le hk h.size) hne).trans (h.block k hk hne)⟩

theorem grown_drew(w:World)(row:Option Nat):w.grownBy w.drew row:=⟨rfl,rfl,rfl,Nat.le_refl _,fun _ _ _=>rfl⟩

theorem isort_mem{α:Type}(lt:α→α→Bool)(l:List α)(y:α):y∈isort lt l↔y∈l:=by
  unfold isort
  have : ∀ (l A:List α),y∈l.foldl (ins lt) A↔y∈A∨y∈l:=by
    intro l
    induction l with
    | nil=>intro A;simp
    | cons x r ih =>
      intro A
      rw [List.foldl_cons,ih]
      have:y∈ins lt A x↔y∈A∨y=x:=by
        unfold ins
        rw [List.mem_append,List.mem_cons]
        constructor
        · rintro (h | h | h)
          · exact Or.inl (List.mem_of_mem_take h)
          · exact Or.inr h
          · exact Or.inl (List.mem_of_mem_drop h)
        · rintro (h | h)
          · rw [← List.take_append_drop (insPos lt x A) A,List.mem_append] at h
            rcases h with h | h
            · exact Or.inl h
            · exact Or.inr (Or.inr h)
          · exact Or.inr (Or.inl h)
      rw [this,List.mem_cons]
      constructor
      · rintro ((h | h) | h) <;> simp [h]
      · rintro (h | h | h) <;> simp [h]
  rw [this];simp

def ltC{α:Type}(cmp:α→α→Int)(x y:α):Bool:=decide (cmp x y<0)

theorem own_cell{w:World}{base e g n cap:Nat}{L:List Int}(h:w.ownsRow base e 1 (.slice (some ⟨g,0,none⟩) n cap) n (L.map (Value.int .i64))){t:Nat}{y:Int}(ht:L[t]? = some y):w.cell? ⟨g,t,none⟩=some (.int .i64 y):=by
  have hl:=h.1
  simp only [List.length_map,Nat.mul_one] at hl
  have htl:t<L.length:=(List.getElem?_eq_some_iff.1 ht).1
  rw [h.cellAt t (by omega),List.getElem?_map,ht]
  rfl

theorem own_swap{w:World}{base e g n cap:Nat}{L:List Int}(h:w.ownsRow base e 1 (.slice (some ⟨g,0,none⟩) n cap) n (L.map (Value.int .i64)))(j:Nat)(y x:Int) :
    (((w.setCell ⟨g,j,none⟩ (.int .i64 y)).setCell ⟨g,j-1,none⟩ (.int .i64 x)).drew).ownsRow base e 1 (.slice (some ⟨g,0,none⟩) n cap) n (((L.set j y).set (j-1) x).map (Value.int .i64)) ∧
    w.grownBy (((w.setCell ⟨g,j,none⟩ (.int .i64 y)).setCell ⟨g,j-1,none⟩ (.int .i64 x)).drew) (some g):=by
  obtain ⟨h1,g1⟩:=h.stored j (.int .i64 y)
  obtain ⟨h2,g2⟩:=h1.stored (j-1) (.int .i64 x)
  refine ⟨?_,grown_then (grown_then g1 g2) (grown_drew _ _)⟩
  rw [List.map_set,List.map_set]
  exact h2.drew

set_option maxHeartbeats 2000000 in
set_option maxRecDepth 1000000 in
theorem insertion_ints(base e gb n cap:Nat)(l:List Int)(g:FuncId)(lb:Array Value)(cmp:Int→Int→Int)(w:World)
    (hv:w.ownsRow base e 1 (.slice (some ⟨gb,0,none⟩) n cap) n (l.map (Value.int .i64))) (hn:n≤1000) (hC:CmpOn Tryz.prog g lb (Value.int .i64) cmp (fun x=>x∈l) w gb) :
    Calls Tryz.prog 175 #[.slice (some ⟨gb,0,none⟩) n cap,.int .i64 0,.int .i64 n,.func (.func g) #[] lb] w fun e1 w'=>e1 = .returned (.tuple #[]) ∧
      w'.ownsRow base e 1 (.slice (some ⟨gb,0,none⟩) n cap) n ((isort (ltC cmp) l).map (Value.int .i64))∧w.grownBy w' (some gb):=by
  have hln:l.length=n:=by have:=hv.1;simpa using this
  have hnc:n≤cap∧cap≤maxLen:=by
    rcases hv.2 with ⟨h,_⟩ | ⟨g',cap',cur,h,hb,hg,h1,h2,_⟩
    · cases h
    · cases h;exact ⟨h1,h2⟩
  obtain ⟨hnc1,hnc2⟩:=hnc
  unfold maxLen at hnc2
  have eg:=hC.enters
  have hle1:l.length≤n:=by omega
  have hle2:n≤l.length:=by omega
  clear hln
  have HC:=hid hC
  clear hC
  go_enter Tryz.func175,Tryz.ntmps175
  go_wp2
  go_loopw [8] (fun i wr=>∃ (k:Nat) ,1≤k∧(k≤n∨k=1)∧i = .int .i64 k∧wr.ownsRow base e 1 (.slice (some ⟨gb,0,none⟩) n cap) n ((isort (ltC cmp) (l.take k)++l.drop k).map (Value.int .i64))∧w.grownBy wr (some gb)) (fun i _=>n-(intOf i).toNat)
  case atStart =>
    refine ⟨1,by omega,by omega,rfl,?_,World.grownBy.refl _ _⟩
    have e1:isort (ltC cmp) (l.take 1)++l.drop 1=l:=by
      cases l with
      | nil=>rfl
      | cons x r=>rfl
    rw [e1]
    exact hv
  case round =>
    obtain ⟨k,hk1,hk2,rfl,ho,hg⟩:=hrel
    have HO:=hid ho
    have HG:=hid hg
    clear ho hg hv
    by_cases hlt:k<n
    · have hAl:(isort (ltC cmp) (l.take k)).length=k:=by rw [isort_length];simp;omega
      have hx:l[k]? = some l[k]:=List.getElem?_eq_getElem (by omega)
      have hxm:l[k]∈l:=by simp
      have hAm:∀ y∈isort (ltC cmp) (l.take k),y∈l:=fun y hy=>List.mem_of_mem_take ((isort_mem _ _ _).1 hy)
      have hsn:=isort_snoc (ltC cmp) l k (by omega)
      have hdr:l.drop k=l[k]::l.drop (k+1):=List.drop_eq_getElem_cons (by omega)
      have ho:=HO.out
      rw [hdr,← mv_end,hAl] at ho
      clear HO
      obtain ⟨A,hA⟩:∃ A,A=isort (ltC cmp) (l.take k):=⟨_,rfl⟩
      obtain ⟨x,hxe⟩:∃ x,x=l[k]:=⟨_,rfl⟩
      obtain ⟨R,hR⟩:∃ R,R=l.drop (k+1):=⟨_,rfl⟩
      rw [← hA] at hAl hAm hsn ho
      rw [← hxe] at hx hxm hsn ho
      rw [← hR] at ho
      have HRR:=hid hR
      clear hA hxe hR hdr
      have HSN:=hid hsn
      have HAM:=hid hAm
      have HXM:=hid hxm
      have hA1:A.length≤k:=by omega
      have hA2:k≤A.length:=by omega
      clear hsn hAm hxm hx hAl
      obtain ⟨wo,rfl⟩:∃ wo:World,wo=wr:=⟨_,rfl⟩
      go_wp2
      go_loopw [9] (fun i wr=>∃ (j:Nat),j≤k∧i = .int .i64 j∧wr.ownsRow base e 1 (.slice (some ⟨gb,0,none⟩) n cap) n ((mv A x j R).map (Value.int .i64))∧w.grownBy wr (some gb) ∧
        ∀ t (_:t<A.length),j≤t→ltC cmp x A[t]=true) (fun i _=>(intOf i).toNat)
      case atStart=>exact ⟨k,Nat.le_refl _,rfl,ho,HG.out,fun t h1 h2=>by omega⟩
      case round =>
        clear HG ho
        obtain ⟨j,hj,rfl,ho,hg,hall⟩:=hrel
        have HO:=hid ho
        have HG:=hid hg
        have HALL:=hid hall
        clear ho hg hall
        by_cases h0:0<j
        · have hyy:A[j-1]? = some A[j-1]:=List.getElem?_eq_getElem (by omega)
          have hym:A[j-1]∈A:=by simp
          obtain ⟨y,hye⟩:∃ y,y=A[j-1]:=⟨_,rfl⟩
          rw [← hye] at hyy hym
          have HYE:=hid hye
          clear hye
          have c1:=own_cell HO.out (t:=j) (y:=x) (by rw [mv_get _ _ _ _ (by omega),if_neg (by omega),if_pos rfl])
          have c2:=own_cell HO.out (t:=j-1) (y:=y) (by rw [mv_get _ _ _ _ (by omega),if_pos (by omega),hyy])
          have f1:=HO.out.frozenAt j
          have f2:=HO.out.frozenAt (j-1)
          have d1:=later_cell c1
          have d2:=later_cell c2
          have hlt0:=World.block_lt_of_cell? _ _ c1
          have HCM:=hid (fun (z:Later wr)=>HC.out.gives z.W x y HXM.out (HAM.out y hym) (grown_then_below HG.out z.h))
          have hjn:(j:Int)<n:=by omega
          have hd:decide ((0:Int)<j)=true:=by simpa using h0
          have HY:=hid hyy
          clear hyy hym
          go_wp2
          refine wp_region_qL (by kernel_rfl) (by kernel_rfl) ?_
          repeat (go_big_quiet_step (exact Later.call _ (HCM.out _)))
          refine wpQuiet_nil (later_all fun w2 hb2 => ?_)
          have e1:=(bcell hb2).1 gb j hlt0
          have e2:=(bcell hb2).1 gb (j-1) hlt0
          have e3:=(bcell hb2).2 gb j hlt0
          have e4:=(bcell hb2).2 gb (j-1) hlt0
          have k1:=e1.trans c1
          have k2:=e2.trans c2
          have k3:=e3.trans f1
          have k4:=e4.trans f2
          have HO2:=hid (World.ownsRow.kept HO.out (grown_of_below hb2 none) (by simp [Value.ownBlock]))
          have HG2:=hid (grown_then_below HG.out hb2)
          clear e1 e2 e3 e4 d1 d2 c1 c2 f1 f2 hb2 HO HG
          by_cases hneg:cmp x y<0
          · go_wp2
            go_region
            all_goals
              go_wp2
              go_roundw
              case rel =>
                obtain ⟨ho',hg'⟩:=own_swap HO2.out j y x
                rw [mv_swap A x j R (by omega) h0 y HY.out] at ho'
                refine ⟨j-1,by omega,congrArg (Value.int .i64) (by omega),ho',grown_then HG2.out hg',fun t h1 h2 => ?_⟩
                by_cases ht:t=j-1
                · subst ht
                  rw [← HYE.out]
                  simp [ltC,hneg]
                · exact HALL.out t h1 (by omega)
              case measure=>simp [intOf];omega
          · go_wp2
            go_roundw
            case rel =>
              have hp:insPos (ltC cmp) x A=j:=insPos_eq _ _ _ _ (by omega) HALL.out (Or.inr ⟨y,HY.out,by simp [ltC,hneg]⟩)
              refine ⟨k+1,by omega,by omega,by go_num,?_,HG2.out⟩
              rw [HSN.out,← HRR.out,← mv_ins,hp]
              exact HO2.out
            case measure=>simp [intOf];omega
        · have hj0:j=0:=by omega
          have hd:decide ((0:Int)<j)=false:=by simpa using h0
          have HJ:=hid hj0
          clear hj0
          go_wp2
          refine wp_region_qL (by kernel_rfl) (by kernel_rfl) ?_
          repeat (go_big_quiet_step (fail))
          refine wpQuiet_nil (later_all fun w2 hb2 => ?_)
          have HO2:=hid (World.ownsRow.kept HO.out (grown_of_below hb2 none) (by simp [Value.ownBlock]))
          have HG2:=hid (grown_then_below HG.out hb2)
          clear hb2 HO HG
          go_wp2
          go_roundw
          case rel =>
            have hp:insPos (ltC cmp) x A=j:=insPos_eq _ _ _ _ (by omega) HALL.out (Or.inl HJ.out)
            refine ⟨k+1,by omega,by omega,by go_num,?_,HG2.out⟩
            rw [HSN.out,← HRR.out,← mv_ins,hp]
            exact HO2.out
          case measure=>simp [intOf];omega
    · go_wp2
      go_end0
      have hk:isort (ltC cmp) (l.take k)++l.drop k=isort (ltC cmp) l:=by
        rw [List.take_of_length_le (by omega),List.drop_of_length_le (by omega),List.append_nil]
      refine ⟨rfl,?_,HG.out⟩
      rw [← hk]
      exact HO.out
end KL
end Go.Proofs
end
section
namespace Go.Proofs
open Go.RowKit Go.Lib Go.Sort
namespace KL

set_option maxHeartbeats 400000 in
theorem insertion_triv_ints(v f:Value)(a b:Int)(w:World)(ha:0≤a)(ha2:a≤1000)(h:b≤a+1) :
    Calls Tryz.prog 175 #[v,.int .i64 a,.int .i64 b,f] w fun e1 w'=>e1 = .returned (.tuple #[])∧w=w':=by
  go_enter Tryz.func175,Tryz.ntmps175
  go_wp2
  go_loop [8] (fun i=>i = .int .i64 (a+1)) (fun _=>0)
  case atStart=>rfl
  case round =>
    obtain rfl:=hrel
    go_wp2
    go_end0
    exact ⟨rfl,rfl⟩

set_option maxHeartbeats 1000000 in
set_option maxRecDepth 1000000 in
theorem stable_ints(base e:Nat)(v:Value)(n:Nat)(l:List Int)(g:FuncId)(lb:Array Value)(cmp:Int→Int→Int)(w:World)
    (hv:w.ownsRow base e 1 v n (l.map (Value.int .i64))) (hn:n≤20) (hC:∀ b,v.ownBlock=some b→CmpOn Tryz.prog g lb (Value.int .i64) cmp (fun x=>x∈l) w b) :
    Calls Tryz.prog 187 #[v,.int .i64 n,.func (.func g) #[] lb] w fun e1 w'=>e1 = .returned (.tuple #[]) ∧
      w'.ownsRow base e 1 v n ((isort (ltC cmp) l).map (Value.int .i64))∧w.grownBy w' v.ownBlock:=by
  rcases hv.2 with ⟨rfl,rfl⟩ | ⟨gb,cap,cur,rfl,hb,hg,hnc,hcm,hs,ht⟩
  · have h0:l=[]:=by have:=hv.1;simpa using this
    subst h0
    clear hC
    go_enter Tryz.func187,Tryz.ntmps187
    go_wp2
    go_loop [7,8] (fun b c=>b = .int .i64 0∧c = .int .i64 20) (fun _ _=>0)
    case atStart=>exact ⟨rfl,rfl⟩
    case round =>
      obtain ⟨rfl,rfl⟩:=hrel
      go_wp2_with (go_at_call 175;refine (insertion_triv_ints _ _ _ _ _ (by omega) (by omega) (by omega)).mono ?_;rintro e w' ⟨rfl,rfl⟩)
      go_loop [6] (fun a=>a = .int .i64 20) (fun _=>0)
      case atStart=>rfl
      case round =>
        obtain rfl:=hrel
        go_wp2
        go_end0
        exact ⟨rfl,hv,World.grownBy.refl _ _⟩
  · have HI:=hid (insertion_ints base e gb n cap l g lb cmp w hv (by omega) (hC gb rfl))
    have HV:=hid hv
    clear hv hC hs ht hg
    have hg1:(20:Int)≤n→n=20:=fun h=>by omega
    by_cases h20:n=20
    · subst h20
      go_enter Tryz.func187,Tryz.ntmps187
      go_wp2
      go_loopw [7,8] (fun b c wr=>((b = .int .i64 0∧c = .int .i64 20∧wr=w)∨(b = .int .i64 20∧c = .int .i64 40∧wr.ownsRow base e 1 (.slice (some ⟨gb,0,none⟩) 20 cap) 20 ((isort (ltC cmp) l).map (Value.int .i64))∧w.grownBy wr (some gb)))) (fun _ c _=>(60-intOf c).toNat)
      case atStart=>exact Or.inl ⟨rfl,rfl,rfl⟩
      case round =>
        obtain (⟨rfl,rfl,rfl⟩ | ⟨rfl,rfl,ho,hg⟩):=hrel
        · go_wp2_with (go_at_call 175;refine HI.out.mono ?_;rintro e w1 ⟨rfl,ho,hg⟩;have HO:=hid ho;have HG:=hid hg;clear ho hg)
          go_roundw
          case rel=>exact Or.inr ⟨rfl,rfl,HO.out,HG.out⟩
          case measure=>simp [intOf]
        · have HO:=hid ho
          have HG:=hid hg
          clear ho hg
          go_wp2_with (go_at_call 175;refine (insertion_triv_ints _ _ _ _ _ (by omega) (by omega) (by omega)).mono ?_;rintro e w' ⟨rfl,rfl⟩)
          go_loop [6] (fun a=>a = .int .i64 20) (fun _=>0)
          case atStart=>rfl
          case round =>
            obtain rfl:=hrel
            go_wp2
            go_end0
            exact ⟨rfl,HO.out,HG.out⟩
    · have hlt:n<20:=by omega
      clear h20 hg1
      go_enter Tryz.func187,Tryz.ntmps187
      go_wp2
      go_loop [7,8] (fun b c=>b = .int .i64 0∧c = .int .i64 20) (fun _ _=>0)
      case atStart=>exact ⟨rfl,rfl⟩
      case round =>
        obtain ⟨rfl,rfl⟩:=hrel
        go_wp2_with (go_at_call 175;refine HI.out.mono ?_;rintro e w1 ⟨rfl,ho,hg⟩;have HO:=hid ho;have HG:=hid hg;clear ho hg)
        go_loop [6] (fun a=>a = .int .i64 20) (fun _=>0)
        case atStart=>rfl
        case round =>
          obtain rfl:=hrel
          go_wp2
          go_end0
          exact ⟨rfl,HO.out,HG.out⟩

theorem own_form{w:World}{base e k:Nat}{v:Value}{n:Nat}{xs:List Value}(h:w.ownsRow base e k v n xs):∃ p cap,v = .slice p n cap:=by
  rcases h.2 with ⟨rfl,rfl⟩ | ⟨g,cap,cur,rfl,_⟩
  · exact ⟨none,0,rfl⟩
  · exact ⟨_,_,rfl⟩

set_option maxHeartbeats 400000 in
theorem sortStable_ints(base e:Nat)(v:Value)(n:Nat)(l:List Int)(g:FuncId)(lb:Array Value)(cmp:Int→Int→Int)(w:World)
    (hv:w.ownsRow base e 1 v n (l.map (Value.int .i64))) (hn:n≤20) (hC:∀ b,v.ownBlock=some b→CmpOn Tryz.prog g lb (Value.int .i64) cmp (fun x=>x∈l) w b) :
    Calls Tryz.prog 155 #[v,.func (.func g) #[] lb] w fun e1 w'=>e1 = .returned (.tuple #[]) ∧
      w'.ownsRow base e 1 v n ((isort (ltC cmp) l).map (Value.int .i64))∧w.grownBy w' v.ownBlock:=by
  have HI:=hid (stable_ints base e v n l g lb cmp w hv hn hC)
  obtain ⟨p,cap,rfl⟩:=own_form hv
  clear hv hC
  go_enter Tryz.func155,Tryz.ntmps155
  go_wp2_with (go_at_call 187;refine HI.out.mono ?_;rintro e w1 ⟨rfl,ho,hg⟩;have HO:=hid ho;have HG:=hid hg;clear ho hg)
  go_end0
  exact ⟨rfl,HO.out,HG.out⟩
end KL
end Go.Proofs
end
section
namespace Go.Proofs
open Go.RowKit
namespace KL
section
variable {P:Program} {ops:Array Oper} {rest:List Oper} {dst:Option Tmp} {ty:TypeId} {pos:String} {af:Array Edge} {a:Act} {w:World} {Q:Exit→Act→World→Prop}

theorem wpL_append1{s x:Operand}{t e:TypeId}{base k bytes:Nat}{z v:Value}{n b:Nat}{xs news:List Value}(hown:w.ownsRow base e k v n xs)
    (ht:P.underlying t=some (.slice e)) (hinfo:(P.info? e).map (fun i=>(i.zero,i.size,i.bytes))=some (some z,k,bytes)) (hzs:z.cells.size=k) (hk:0<k)
    (hs:a.eval s=v) (hx:a.eval x = .slice (some ⟨b,0,none⟩) 1 1) (hl:news.length=k) (hnews:∀ j u,news[j]? = some u→w.cell? ⟨b,j,none⟩=some u) (h1:∀ u∈news,u.oneCell'=true)
    (hn:n≤100000) (hby:bytes≤100000) (hbase:base≤w.heap.size)
    (h:∀ g' n' cap' w',n'=n+1→n'≤n+1→n+1≤n'→w'.ownsRow base e k (.slice (some ⟨g',0,none⟩) n' cap') n' (xs++news)→w.grownBy w' v.ownBlock→wpList P ops Q rest (a.put dst (.slice (some ⟨g',0,none⟩) n' cap')) w') :
    wpList P ops Q ({ dst:=dst,op := .call { callee := .builtin .append,args := #[s,x],argTypes := #[t,t] },type:=ty,pos:=pos,after:=af,guard:=none }::rest) a w:=by
  obtain ⟨i,hi,hz,hz1,hz2⟩:=info_parts hinfo
  refine wpList_append_own w rfl s x t rfl base e i z k bytes ht hi hz hz1 hz2 hzs hk v n xs hs hown ⟨b,0,none⟩ 1 1 news hx (by omega) (fun j u hu => ?_) h1 (by unfold maxLen;omega) ?_ hbase (fun v' w' ho hg _ => ?_)
  · rw [Addr.add_lit,Nat.zero_add];exact hnews j u hu
  · have:(n+1)*bytes≤100001*100000:=Nat.mul_le_mul (by omega) hby
    omega
  · obtain ⟨g',cap',rfl⟩:∃ g' cap',v' = .slice (some ⟨g',0,none⟩) (n+1) cap':=by
      rcases ho.2 with ⟨_,h0⟩ | ⟨g,cap,cur,hv,_⟩
      · omega
      · exact ⟨g,cap,hv⟩
    exact h g' (n+1) cap' w' rfl (Nat.le_refl _) (Nat.le_refl _) ho hg

theorem ownsRow_front{base e k:Nat}{p:Option Addr}{n cap j:Nat}{xs:List Value}(h:w.ownsRow base e k (.slice p n cap) n xs)(hj:j≤n) :
    w.ownsRow base e k (Go.sliced p 0 j cap k) j (xs.take (j*k))∧(∃ p' cap',Go.sliced p 0 j cap k = .slice p' j cap')∧(Go.sliced p 0 j cap k).ownBlock=(Value.slice p n cap).ownBlock:=by
  have hl:=h.1
  have hjk:j*k≤n*k:=Nat.mul_le_mul_right _ hj
  rcases h.2 with ⟨h',hn⟩ | ⟨g,cap',cur,h',hb,hg,h1,h2,h3,ht⟩
  · injection h' with e1 e2 e3
    subst e1 e3
    have:j=0:=by omega
    subst this
    refine ⟨⟨by simp,.inl ⟨by simp [Go.sliced],rfl⟩⟩,⟨none,0,by simp [Go.sliced]⟩,by simp [Go.sliced,Value.ownBlock]⟩
  · injection h' with e1 e2 e3
    subst e1 e3
    have hv:Go.sliced (some ⟨g,0,none⟩) 0 j cap k = .slice (some ⟨g,0,none⟩) j cap:=by
      unfold Go.sliced
      simp [Addr.add]
    rw [hv]
    refine ⟨⟨by rw [List.length_take];omega,.inr ⟨g,cap,cur,rfl,hb,hg,by omega,h2,h3,?_⟩⟩,⟨_,_,rfl⟩,rfl⟩
    rw [← ht,List.take_take,Nat.min_eq_left hjk]

theorem wpL_front{s hi:Operand}{t e:TypeId}{base k:Nat}{p:Option Addr}{n cap:Nat}{xs:List Value}{j:Int}(hown:w.ownsRow base e k (.slice p n cap) n xs)
    (hu:P.underlying t=some (.slice e)) (hsz:(P.info? e).map (fun i=>i.size)=some k)
    (hs:a.eval s = .slice p n cap) (hj1:a.eval hi = .int .i64 j) (h1:0≤j) (h2:j≤n)
    (h:∀ p' j' cap',j'=j.toNat→(j':Int)=j→w.ownsRow base e k (.slice p' j' cap') j' (xs.take (j'*k))→(Value.slice p' j' cap').ownBlock=(Value.slice p n cap).ownBlock→wpList P ops Q rest (a.put dst (.slice p' j' cap')) w) :
    wpList P ops Q ({ dst:=dst,op := .slice t s none (some hi) none,type:=ty,pos:=pos,after:=af,guard:=none }::rest) a w:=by
  refine wpList_plain rfl fun K hK => ?_
  obtain ⟨ti,hti,hsz⟩:=Option.map_eq_some_iff.1 hsz
  have he:P.elem t=e:=by simp [Program.elem,hu]
  have hnc:n≤cap:=by
    rcases hown.2 with ⟨h',hn⟩ | ⟨g,cap',cur,h',hb,hg,h1,h2,h3,ht⟩
    · cases h';omega
    · cases h';exact h1
  have hr:=run_slice_h (P:=P) w t p n cap (by rw [he];exact hu) .i64 j h1 (by omega)
  rw [he] at hr
  have hr2:(Instr.sliceAt t (.slice p n cap) none (some (.int .i64 j)) none).run P w = .ok (Go.sliced p 0 j.toNat cap k) w:=by
    rw [run_sliceAt_slice (P:=P) w t _ _ _ _ (by rw [he];exact hu),hr]
    simp [sizeOf,typeInfo,hti,hsz,Result.andThen]
  obtain ⟨ho,⟨p',cap',hf⟩,hb⟩:=ownsRow_front (j:=j.toNat) hown (by omega)
  rw [hf] at ho hb hr2
  unfold Oper.wp
  simp only [execOp,hs,hj1,Option.map_some,Option.map_none,Sem.run_bind,hr2]
  exact hK _ _ (h p' j.toNat cap' rfl (by omega) ho hb)
end
end KL
end Go.Proofs
end
section
namespace Go.Proofs
open Go.RowKit Go.Lib Go.Sort
namespace KL

theorem info3z:(Tryz.prog.info? 3).map (fun i=>(i.zero,i.size,i.bytes))=some (some (.int .i64 0),1,8):=by kernel_rfl

def scoreAt(c:Cup)(i s:Nat):Int:=scoreM c.pts (c.done.getD i []) s

def cntCmp(c:Cup)(s:Nat)(a b:Int):Int:=cmpI (scoreAt c b.toNat s) (scoreAt c a.toNat s)

def idx(m:Nat):List Int:=(List.range m).map (fun i=>((i:Nat):Int))
theorem idx_length(m:Nat):(idx m).length=m:=by simp [idx]
theorem idx_succ(m:Nat):idx (m+1)=idx m++[(m:Int)]:=by simp [idx,List.range_succ]
theorem idx_mem{m:Nat}{x:Int}(h:x∈idx m):∃ k:Nat,x=k∧k<m:=by
  unfold idx at h
  rw [List.mem_map] at h
  obtain ⟨k,hk,rfl⟩:=h
  exact ⟨k,rfl,List.mem_range.1 hk⟩

def countedL(c:Cup)(s:Nat):List Int:=((isort (ltC (cntCmp c s)) (idx c.done.length)).take (min c.done.length c.be.toNat)).mergeSort leB

theorem points_at{c:Cup}(hV:Valid c){vp vd:Value}{w:World}(hp:Ints w vp c.pts)(hd:Rows w vd c.done){s:Nat}(hs:(s:Int)<c.sk){i:Nat}(hi:i<c.done.length){vr:Value}(hr:Ints w vr c.done[i]) :
    Calls Tryz.prog 102 #[.agg #[.int .i64 c.sk,.int .i64 c.ra,.int .i64 c.be,vp,vd],vr,.int .i64 s] w (Ret (.int .i64 (scoreAt c i s)) w):=by
  have hm:c.done[i]∈c.done:=by simp
  have hl:=hV.len _ hm
  have h2:=hV.sk2
  have h3:=hV.pt2
  have:=points_any c.sk c.ra c.be vp vd vr c.pts c.done[i] s w hp (by omega) hV.pts hr (by omega) (hV.rows _ hm) (by omega)
  unfold scoreAt
  rw [List.getD_eq_getElem?_getD,List.getElem?_eq_getElem hi]
  exact this

set_option maxHeartbeats 1000000 in
set_option maxRecDepth 1000000 in
theorem f156_any(c:Cup)(hV:Valid c)(vp vd:Value)(W:World)(bd bs s:Nat)(x y:Nat)(hp:Ints W vp c.pts)(hd:Rows W vd c.done)(hs:(s:Int)<c.sk)
    (k0:W.cell? ⟨bd,0,none⟩=some (.int .i64 c.sk)) (k1:W.cell? ⟨bd,1,none⟩=some (.int .i64 c.ra)) (k2:W.cell? ⟨bd,2,none⟩=some (.int .i64 c.be)) (k3:W.cell? ⟨bd,3,none⟩=some vp) (k4:W.cell? ⟨bd,4,none⟩=some vd)
    (ks:W.cell? ⟨bs,0,none⟩=some (.int .i64 s)) (hx:x<c.done.length) (hy:y<c.done.length) :
    Calls Tryz.prog 156 #[.int .i64 x,.int .i64 y,.pointer (some ⟨bd,0,none⟩),.pointer (some ⟨bs,0,none⟩)] W (Ret (.int .i64 (cntCmp c s x y)) W):=by
  obtain ⟨p,cap,rfl,hlc,hcm,hc⟩:=hd.open
  obtain ⟨b,o,u,rfl,hcy,hry⟩:=hc y hy
  obtain ⟨b',o',u',hb',hcx,hrx⟩:=hc x hx
  cases hb'
  unfold maxLen at hcm
  have HY:=hid (fun (z:Later W)=>points_at hV (ints_below hp z.h) (rows_below hd z.h) hs hy (ints_below hry z.h))
  have HX:=hid (fun (z:Later W)=>points_at hV (ints_below hp z.h) (rows_below hd z.h) hs hx (ints_below hrx z.h))
  have HC:=hid (fun (z:Later W)=>compare_any (scoreAt c y s) (scoreAt c x s) z.W)
  have l0:=later_cell k0
  have l1:=later_cell k1
  have l2:=later_cell k2
  have l3:=later_cell k3
  have l4:=later_cell k4
  have ls:=later_cell ks
  have lx:=later_cell hcx
  have ly:=later_cell hcy
  have i1:(x:Int)<c.done.length:=by omega
  have i2:(y:Int)<c.done.length:=by omega
  have HE:=hid (show cntCmp c s x y=cmpI (scoreAt c y s) (scoreAt c x s) from rfl)
  clear hc hcx hcy k0 k1 k2 k3 k4 ks hp hd hrx hry
  go_enter Tryz.func156,Tryz.ntmps156
  go_wp2
  refine wp_region_qL (by kernel_rfl) (by kernel_rfl) ?_
  repeat (go_big_quiet_step (first | (go_at_call 102;first | with_reducible exact Later.call _ (HY.out _) | with_reducible exact Later.call _ (HX.out _)) | (go_at_call 97;with_reducible exact Later.same _ (HC.out _))))
  refine wpQuiet_nil (later_all fun w2 hb2 => ?_)
  go_wp2
  go_ret
  exact ⟨ret_int HE.out.symm,hb2⟩

abbrev deskBox(c:Cup)(vp vd:Value):Obj := .cells #[.int .i64 c.sk,.int .i64 c.ra,.int .i64 c.be,vp,vd] 120
abbrev cntW(w:World)(c:Cup)(vp vd:Value)(s:Nat):World:=(w.alloc (deskBox c vp vd)).alloc (.cells #[.int .i64 s] 3)

theorem cntBox{w W:World}{c:Cup}{vp vd:Value}{s:Nat}(hB:Below (w.heap.size+2) (cntW w c vp vd s) W) :
    W.cell? ⟨w.heap.size,0,none⟩=some (.int .i64 c.sk)∧W.cell? ⟨w.heap.size,1,none⟩=some (.int .i64 c.ra)∧W.cell? ⟨w.heap.size,2,none⟩=some (.int .i64 c.be) ∧
    W.cell? ⟨w.heap.size,3,none⟩=some vp∧W.cell? ⟨w.heap.size,4,none⟩=some vd∧W.cell? ⟨w.heap.size+1,0,none⟩=some (.int .i64 s):=by
  refine ⟨?_,?_,?_,?_,?_,?_⟩ <;> rw [hB.cell (by simp)] <;> simp [go_sem]

theorem cntW_below(w:World)(c:Cup)(vp vd:Value)(s:Nat):Below w.heap.size w (cntW w c vp vd s) :=
  ((Below.refl _ w).alloc (Nat.le_refl _) _).alloc (by simp) _

theorem cmp156(c:Cup)(hV:Valid c)(vp vd:Value)(w wr:World)(s:Nat)(hp:Ints w vp c.pts)(hd:Rows w vd c.done)(hs:(s:Int)<c.sk)(l:List Int)(hl:∀ x∈l,x∈idx c.done.length)
    (hB:Below (w.heap.size+2) (cntW w c vp vd s) wr) (b:Nat) (hb:w.heap.size+2≤b) :
    CmpOn Tryz.prog 156 #[.pointer (some ⟨w.heap.size,0,none⟩),.pointer (some ⟨w.heap.size+1,0,none⟩)] (Value.int .i64) (cntCmp c s) (fun x=>x∈l) wr b:=by
  refine ⟨enters_of Tryz.func156 (by kernel_rfl) rfl,fun W x y hx hy hg => ?_⟩
  obtain ⟨x,rfl,hx'⟩:=idx_mem (hl x hx)
  obtain ⟨y,rfl,hy'⟩:=idx_mem (hl y hy)
  have hs':w.heap.size+2≤wr.heap.size:=by have:=hB.size;simpa using this
  have hBW:Below (w.heap.size+2) (cntW w c vp vd s) W:=hB.grown hg hs' (fun k hk=>by cases hk;exact hb)
  obtain ⟨k0,k1,k2,k3,k4,k5⟩:=cntBox hBW
  have h0:Below w.heap.size w W:=(cntW_below w c vp vd s).trans (hBW.mono (by omega))
  exact f156_any c hV vp vd W _ _ s x y (ints_below hp h0) (rows_below hd h0) hs k0 k1 k2 k3 k4 k5 hx' hy'

theorem cnt_front{w1:World}{base:Nat}(m n j:Nat)(be:Int)(L:List Int)(p':Option Addr)(cap':Nat)(hl:L.length=m)(h1:n≤m)(h2:m≤n)(hbe:1≤be)(hj:j=(min (n:Int) be).toNat)
    (ho:w1.ownsRow base 3 1 (.slice p' j cap') j ((L.map (Value.int .i64)).take (j*1))):OwnI w1 base (.slice p' j cap') (L.take (min m be.toNat)):=by
  have e:j=min m be.toNat:=by omega
  have hlen:(L.take (min m be.toNat)).length=j:=by rw [List.length_take,hl];omega
  unfold OwnI
  rw [hlen,List.map_take,← e]
  rw [Nat.mul_one] at ho
  exact ho

set_option maxHeartbeats 2000000 in
set_option maxRecDepth 1000000 in
theorem counted_any(c:Cup)(hV:Valid c)(v:Value)(s:Nat)(w:World)(hv:CupAt w v c)(hs:(s:Int)<c.sk) :
    Calls Tryz.prog 125 #[v,.int .i64 s] w (RetOwn (countedL c s) w):=by
  obtain ⟨vp,vd,rfl,hp,hd⟩:=hv
  have HCM:=hid (fun wr l hl hB b hb=>cmp156 c hV vp vd w wr s hp hd hs l hl hB b hb)
  obtain ⟨pd,cd,rfl,hd2,hd3,_⟩:=hd.open
  obtain ⟨pp,cp,rfl,hp2,hp3,_⟩:=hp.open
  unfold maxLen at hd3 hp3
  have hm:c.done.length≤20:=by have:=hV.dn;have:=hV.ra2;omega
  have hbe1:=hV.be1
  have hbe2:=hV.be2
  have hra:=hV.ra2
  have HW:=hid (cntW_below w c (.slice pp c.pts.length cp) (.slice pd c.done.length cd) s)
  have hBB:=Below.refl (w.heap.size+2) (cntW w c (.slice pp c.pts.length cp) (.slice pd c.done.length cd) s)
  have HRES:=hid (show countedL c s=((isort (ltC (cntCmp c s)) (idx c.done.length)).take (min c.done.length c.be.toNat)).mergeSort leB from rfl)
  clear hp hd
  go_enter Tryz.func125,Tryz.ntmps125
  go_wp2
  go_loopw [5,11] (fun o i wr=>∃ (k n:Nat) (p:Option Addr) (cap:Nat),k≤c.done.length∧i = .int .i64 k∧o = .slice p n cap∧n≤k∧k≤n∧wr.ownsRow (w.heap.size+2) 3 1 (.slice p n cap) n ((idx k).map (Value.int .i64)) ∧
      Below (w.heap.size+2) (cntW w c (.slice pp c.pts.length cp) (.slice pd c.done.length cd) s) wr) (fun _ i _=>c.done.length-(intOf i).toNat)
  case atStart=>exact ⟨0,0,none,0,Nat.zero_le _,rfl,rfl,by omega,by omega,World.ownsRow_nil _ _ _ _,hBB⟩
  case round =>
    obtain ⟨k,n,p,cap,hk,rfl,rfl,hn1,hn2,ho,hB⟩:=hrel
    have HO:=hid ho
    have HB:=hid hB
    have hsz:w.heap.size+2≤wr.heap.size:=by have:=hB.size;simpa using this
    clear ho hB hBB
    by_cases hlt:k<c.done.length
    · have HN:=hid (idx_succ k)
      go_wp2_with (first | (at_builtin;((with_reducible apply wpL_append1 (hown:=HO.out.alloc _) (ht:=Tryz.underlying22) (hinfo:=info3z) (news:=[.int .i64 k]));rfl;omega;rfl;rfl;rfl;(intro j u hu;cases j with | zero=>(simp only [List.getElem?_cons_zero,Option.some.injEq] at hu;subst hu;simp) | succ j=>simp at hu);(intro u hu;simp only [List.mem_singleton] at hu;subst hu;rfl);omega;omega;(simp;omega);intro g' n' cap' w' hn' hn'1 hn'2 ho' hg';have HO':=hid ho';have HG':=hid hg';have HN':=hid hn';clear ho' hg' hn')))
      go_roundw
      case rel =>
        have ho2:=HO'.out
        have e1:(idx k).map (Value.int .i64)++[.int .i64 k]=(idx (k+1)).map (Value.int .i64):=by rw [HN.out,List.map_append];rfl
        rw [e1] at ho2
        exact ⟨k+1,n',_,cap',by omega,by go_num,rfl,by omega,by omega,ho2,(HB.out.alloc hsz _).grown HG'.out (by simp;omega) (fun q hq=>(HO.out.lt q hq).1)⟩
      case measure=>simp [intOf];omega
    · have hk2:k=c.done.length:=by omega
      have hlen:(isort (ltC (cntCmp c s)) (idx c.done.length)).length=c.done.length:=by rw [isort_length,idx_length]
      have HO2:Hid (wr.ownsRow (w.heap.size+2) 3 1 (.slice p n cap) n ((idx c.done.length).map (Value.int .i64))):=hid (hk2 ▸ HO.out)
      have HK:=hid hk2
      have HLT:=hid (fun q hq=>(HO.out.lt q hq).1)
      have HCC:=hid (fun q (hq:(Value.slice p n cap).ownBlock=some q)=>HCM.out wr (idx c.done.length) (fun x hx=>hx) HB.out q (HLT.out q hq))
      clear HO hk2
      have hn20:n≤20:=by omega
      have hme:min c.done.length c.be.toNat≤20:=by omega
      go_wp2_with (first
        | (go_at_call 155;refine (sortStable_ints _ _ _ _ _ _ _ _ _ HO2.out hn20 HCC.out).mono ?_;rintro e w1 ⟨rfl,ho1,hg1⟩;have HO1:=hid ho1;have HB1:=hid (HB.out.grown hg1 hsz HLT.out);clear ho1 hg1;obtain ⟨k0,k1,k2,k3,k4,k5⟩:=cntBox HB1.out)
        | ((with_reducible apply wpL_front (hown:=HO1.out) (hu:=Tryz.underlying22) (hsz:=info3));rfl;rfl;omega;omega;intro p' j' cap' hj1 hj2 ho2 hb2;have HJ:=hid hj1;have HO3:=hid (cnt_front c.done.length n j' c.be _ p' cap' hlen (by omega) (by omega) (by omega) hj1 ho2);have HOB:=hid hb2;clear hj1 hj2 ho2 hb2)
        | (go_at_call 84;refine (sort_own _ _ _ _ HO3.out (by rw [List.length_take];omega)).mono ?_;rintro e w2 ⟨rfl,ho4,hg4⟩;have HO4:=hid ho4;have HG4:=hid hg4;clear ho4 hg4))
      go_ret
      have hsz1:w.heap.size+2≤w1.heap.size:=by have:=HB1.out.size;simpa using this
      have hB2:Below (w.heap.size+2) (cntW w c (.slice pp c.pts.length cp) (.slice pd c.done.length cd) s) w2 :=
        HB1.out.grown HG4.out hsz1 (fun q hq=>HLT.out q (by rw [← HOB.out];exact hq))
      have ho5:=HO4.out
      rw [← HRES.out] at ho5
      exact RetOwn.of (OwnI.later ho5 (Below.refl _ _) (by omega)) (HW.out.trans (hB2.mono (by omega)))
end KL
end Go.Proofs
end
section
namespace Go.Proofs
open Go.RowKit
namespace KL
section
variable {P:Program} {ops:Array Oper} {rest:List Oper} {dst:Option Tmp} {ty:TypeId} {pos:String} {af:Array Edge} {a:Act} {w:World} {Q:Exit→Act→World→Prop}

theorem wpL_alloc{t:TypeId}{z:Value}(Z:Array Value)(hz:∀ w,(zeroValue t).run P w = .ok z w)(hZ:z.cells=Z)
    (h:wpList P ops Q rest (a.put dst (.pointer (some ⟨w.heap.size,0,none⟩))) (w.alloc (.cells Z t))) :
    wpList P ops Q ({ dst:=dst,op := .alloc t,type:=ty,pos:=pos,after:=af,guard:=none }::rest) a w:=by
  subst hZ
  refine wpList_plain rfl fun K hK => ?_
  unfold Oper.wp
  simp only [execOp,Instr.alloc,Sem.run_bind,hz,Result.andThen_ok,newVar,newRow,newObj]
  exact hK _ _ h

theorem wpL_loadRow{t e:TypeId}{x:Operand}{g:Nat}{cs:Array Value}{d:TypeDesc}(hg:w.heap[g]? = some (.cells cs e (0,0)))
    (hu:P.underlying t=some d) (hd:(match d with | .struct _ | .array _ _=>true | _=>false)=true) (hi:(P.info? t).map (·.size)=some cs.size)
    (hx:a.eval x = .pointer (some ⟨g,0,none⟩))
    (h:wpList P ops Q rest (a.put dst (.agg cs)) w) :
    wpList P ops Q ({ dst:=dst,op := .load t x,type:=ty,pos:=pos,after:=af,guard:=none }::rest) a w :=
  wpList_load_row rfl t x rfl g hx e cs (0,0) d hg hu hd hi h

theorem heap_setCells(g:Nat)(e:TypeId):∀ (vs:List Value) (o:Nat) (w:World) (cs:Array Value),w.heap[g]? = some (.cells cs e (0,0))→o+vs.length≤cs.size →
    ∃ cs',(w.setCells g o vs).heap[g]? = some (.cells cs' e (0,0))∧cs'.size=cs.size∧(∀ j,j<o→cs'[j]? = cs[j]?)∧(∀ j,j<vs.length→cs'[o+j]? = vs[j]?)∧(∀ j,o+vs.length≤j→cs'[j]? = cs[j]?)∧w.grownBy (w.setCells g o vs) (some g)∧(w.setCells g o vs).heap.size=w.heap.size
  | [],o,w,cs,hg,_=>⟨cs,hg,rfl,fun _ _=>rfl,fun j h=>by simp at h,fun _ _=>rfl,World.grownBy.refl _ _,rfl⟩
  | v::vs,o,w,cs,hg,hs=>by
    simp only [List.length_cons] at hs
    have h1:=heap_setCell_same w g o cs e v hg
    obtain ⟨cs',h2,h3,h4,h5,h6,h7,h8⟩:=heap_setCells g e vs (o+1) (w.setCell ⟨g,o,none⟩ v) _ h1 (by simp;omega)
    refine ⟨cs',h2,by simpa using h3,fun j hj => ?_,fun j hj => ?_,fun j hj => ?_,?_,?_⟩
    · rw [h4 j (by omega),Array.getElem?_setIfInBounds,if_neg (by omega)]
    · cases j with
      | zero=>rw [Nat.add_zero,h4 o (by omega),Array.getElem?_setIfInBounds,if_pos rfl,if_pos (by omega)];rfl
      | succ j=>rw [show o+(j+1)=o+1+j by omega,h5 j (by simpa using hj)];rfl
    · simp only [List.length_cons] at hj
      rw [h6 j (by omega),Array.getElem?_setIfInBounds,if_neg (by omega)]
    · refine grown_then (wr:=w.setCell ⟨g,o,none⟩ v) ⟨rfl,rfl,rfl,by simp,fun k _ hk=>heap_setCell_other w ⟨g,o,none⟩ k v (fun e=>hk (by simp [e]))⟩ h7
    · exact h8.trans (by simp)

theorem wpL_storeRow{t e:TypeId}{x y:Operand}{g:Nat}{cs cells:Array Value}(hg:w.heap[g]? = some (.cells cs e (0,0)))(hi:(P.info? t).map (·.size)=some cells.size)
    (hsz:cells.size=cs.size) (h1:cells.all (·.oneCell')=true) (hx:a.eval x = .pointer (some ⟨g,0,none⟩)) (hy:a.eval y = .agg cells)
    (h:∀ w',w'.heap[g]? = some (.cells cells e (0,0))→w.grownBy w' (some g)→wpList P ops Q rest (a.put dst undef) w') :
    wpList P ops Q ({ dst:=dst,op := .store t x y,type:=ty,pos:=pos,after:=af,guard:=none }::rest) a w:=by
  refine wpList_store_mid rfl t x y rfl g 0 cells hx hy (fun j hj => ?_) hi h1 ?_
  · rw [Nat.zero_add,cell_of_row w g j cs e (0,0) hg,frozen_of_row w g j cs e hg]
    refine ⟨?_,rfl⟩
    rw [Array.getElem?_eq_getElem (by omega)]
    rfl
  · obtain ⟨cs',h2,h3,_,h5,_,h7,_⟩:=heap_setCells g e cells.toList 0 w cs hg (by simp;omega)
    have:cs'=cells:=by
      apply Array.ext_getElem?
      intro j
      by_cases hj:j<cells.size
      · have:=h5 j (by simpa using hj)
        rw [Nat.zero_add] at this
        rw [this];simp
      · rw [Array.getElem?_eq_none (by omega),Array.getElem?_eq_none (by omega)]
    subst this
    exact h _ h2 h7
end
end KL
end Go.Proofs
end
section
namespace Go.Proofs
open Go.RowKit
namespace KL
section
variable {P:Program} {ops:Array Oper} {md:Region.Mode} {C:World→Prop}

def AnyT(P:Program)(md:Region.Mode)(ops:Array Oper)(C:World→Prop)(n:Nat)(L:Array Bool→Act→Prop):Nat→Array Bool→Act→Prop
  | 0,listed,a=>L listed a
  | f+1,listed,a=>Region.ready md ops listed≠[]∧∀ i∈Region.ready md ops listed,i<n∧qOp P ops C i (AnyT P md ops C n L f (listed.setIfInBounds i true)) a

theorem AnyT.any{n g:Nat}{L:Array Bool→Act→Prop}{Q':Exit→Act→World→Prop}(hL:∀ listed a w,C w→L listed a→wpAny P md ops Q' g listed a w) :
    ∀ (f:Nat) (listed:Array Bool) (a:Act) (w:World),C w→AnyT P md ops C n L f listed a→wpAny P md ops Q' (f+g) listed a w
  | 0,listed,a,w,hw,h=>by rw [Nat.zero_add];exact hL _ _ _ hw h
  | f+1,listed,a,w,hw,h=>by
    have e:f+1+g=(f+g)+1:=by omega
    rw [e]
    refine ⟨fun h0=>absurd h0 h.1,fun i hi => ?_⟩
    exact wpOp_of_qOp hw (fun a' w' hw' h'=>AnyT.any hL f _ a' w' hw' h') (h.2 i hi).2

theorem AnyT.first{n i:Nat}{oi:Oper}{v:Value}{L:Array Bool→Act→Prop}(hi:ops[i]? = some oi)(hsel:∀ (j:Nat) (o:Oper) cs b,ops[j]? = some o→o.op ≠ .select cs b)
    (hs:Region.sinkB md ops n=true) (hc:Region.chainB md ops n=true) (hn:n<ops.size) (hin:i<n) (hdone:∀ listed a,L listed a→∀ j∈Region.ready md ops listed,n≤j)
    (f:Nat):∀ (listed:Array Bool) (a:Act),HeadInv md ops n listed →
      (∀ j oj,ops[j]? = some oj→j≠i→listed.getD j true=false→(∀ e∈oj.after,Region.binds md e=true→e.on≠i)→oi.apart ops oj=true) →
      i∈Region.ready md ops listed→YieldsIn P ops C oi v a→AnyT P md ops C n L f (listed.setIfInBounds i true) (a.put oi.dst v)→AnyT P md ops C n L (f+1) listed a:=by
  induction f with
  | zero =>
    intro listed a inv _ hr hy H
    refine ⟨fun h=>(by rw [h] at hr;cases hr),fun j hj => ?_⟩
    have hjn:j<n:=Nat.lt_of_not_le fun h=>tail_waits hs hc hn inv _ i rfl hin (mem_ready.1 hr).1 j h hj
    refine ⟨hjn,?_⟩
    by_cases hji:j=i
    · subst hji
      exact hy.qOp hi H
    · exact absurd (hdone _ _ H j (ready_mono hj hji)) (by omega)
  | succ f ih =>
    intro listed a inv hfree hr hy H
    have hun:=(mem_ready.1 hr).1
    refine ⟨fun h=>(by rw [h] at hr;cases hr),fun j hj => ?_⟩
    have hjn:j<n:=Nat.lt_of_not_le fun h=>tail_waits hs hc hn inv _ i rfl hin hun j h hj
    refine ⟨hjn,?_⟩
    by_cases hji:j=i
    · subst hji
      exact hy.qOp hi H
    obtain ⟨hjun,oj,hoj,hall⟩:=mem_ready.1 hj
    have hnot:∀ e∈oj.after,Region.binds md e=true→e.on≠i:=by
      intro e he hb heq
      have h1:=hall e he hb
      rw [heq,getD_both hun] at h1
      cases h1
    have h2:=qOp_put hoj (hfree j oj hoj hji hjun hnot) (fun cs b=>hsel i oi cs b hi) (fun cs b=>hsel j oj cs b hoj) hy (H.2 j (ready_mono hj hji)).2
    refine qOp_mono (fun a' h3 => ?_) h2
    refine ih (listed.setIfInBounds j true) a' (inv.set hj hjn) (fun k ok hk hki hun' hno => ?_) (ready_mono hr (Ne.symm hji)) h3.1 ?_
    · refine hfree k ok hk hki ?_ hno
      by_cases hjk:j=k
      · subst hjk;exact hjun
      · rw [getD_set_ne true hjk] at hun';exact hun'
    · rw [Array.setIfInBounds_comm _ _ hji]
      exact h3.2

theorem AnyT.lex{n g:Nat}{Lq:Act→Prop}(hsel:Region.noSelect ops=true)(hs:Region.sinkB md ops n=true)(hc:Region.chainB md ops n=true)(hn:n<ops.size) :
    ∀ (l:List Oper) (k:Nat) (listed:Array Bool) (a:Act),(∀ j,j<l.length→l[j]? = ops[k+j]?)→k+l.length=n→HeadInv md ops n listed →
    Region.lexHead md ops g l.length k listed=true→wpQuiet P ops C Lq l a →
    AnyT P md ops C n (fun listed' a'=>Region.seqB md ops g n listed'=true∧Lq a') l.length listed a:=by
  intro l
  induction l with
  | nil =>
    intro k listed a _ hk _ hB h
    obtain rfl:k=n:=by simpa using hk
    exact ⟨by simpa [Region.lexHead] using hB,h⟩
  | cons o l ih =>
    intro k listed a hl hk inv hB h
    have h0:ops[k]? = some o:=by simpa using (hl 0 (by simp)).symm
    simp only [List.length_cons,Region.lexHead,Bool.and_eq_true] at hB
    obtain ⟨⟨hr,hf⟩,hB'⟩:=hB
    simp only [List.length_cons] at hk hl
    have hr':k∈Region.ready md ops listed:=by simpa using hr
    have hst:qOp P ops C k (wpQuiet P ops C Lq l) a:=by
      unfold qOp
      simp only [h0]
      exact h
    obtain ⟨v,hy,hK⟩:=yieldsIn_of_qOp h0 hst
    refine AnyT.first h0 (Region.noSelect_spec hsel) hs hc hn (by omega) (fun listed' a' hL=>seqB_ready hL.1) l.length listed a inv (Region.free_spec h0 hf) hr' hy ?_
    refine ih (k+1) _ _ (fun j hj => ?_) (by omega) (inv.set hr' (by omega)) hB' hK
    have:=hl (j+1) (by omega)
    simpa [Nat.add_assoc,Nat.add_comm 1 j] using this

theorem wp_region_qT{id:Nat}{Q:Exit→Act→World→Prop}{a:Act}{w:World}{l:List Oper}(n:Nat)(hm:P.follows .mixedOrders=true)(hB:Region.lexTailB .any l.toArray n=true)
    (h:wpQuiet P l.toArray (fun w'=>∃ z:Later w,w'=z.W) (fun a'=>∀ w',(∃ z:Later w,w'=z.W)→wpList P l.toArray Q (l.drop n) a' w') (l.take n) a):(Code.region id l.toArray true).wp P Q a w:=by
  simp only [Region.lexTailB,Bool.and_eq_true,decide_eq_true_eq] at hB
  obtain ⟨⟨⟨⟨hsel,hn⟩,hs⟩,hc⟩,hlex⟩:=hB
  have hnl:n<l.length:=by simpa using hn
  have htl:(l.take n).length=n:=by simp;omega
  have hdl:(l.drop n).length=l.toArray.size-n:=by simp
  have inv0:HeadInv .any l.toArray n (Array.replicate l.toArray.size false) :=
    ⟨by simp,fun j oj _ hl=>(by rw [getD_replicate_false] at hl;cases hl),fun t _ ht=>getD_in (by simpa using ht) (getD_replicate_false _ _)⟩
  have H:=AnyT.lex (md := .any) (g:=l.toArray.size-n) hsel hs hc hn (l.take n) 0 _ a (fun j hj=>by
    rw [htl] at hj
    simp [hj]) (by omega) inv0 (by rw [htl];exact hlex) h
  refine wp_region_any hm ?_
  have H2:=AnyT.any (Q':=Q) (g:=l.toArray.size-n) (fun listed a' w' hw' hL=>by
    have:=wpAny_of_seq (md := .any) (Q':=Q) (l.drop n) n listed a' w' (fun j=>by simp [List.getElem?_drop]) (by rw [hdl];exact hL.1) (hL.2 w' hw')
    rwa [hdl] at this) _ _ _ { w with drawn:=w.drawn+1 } ⟨⟨_,(Below.refl _ w).drew⟩,rfl⟩ H
  have e:n+(l.toArray.size-n)=l.toArray.size:=by omega
  rw [htl,e] at H2
  exact H2
end
end KL
end Go.Proofs
end
section
namespace Go.Proofs
open Go.RowKit Go.Lib Go.Sort
namespace KL

def formC(t:Int)(pl:List Int):Array Value:=(Value.int .i64 t::pl.map (Value.int .i64)).toArray
def zeros61:List Int:=List.replicate 61 0
def formZ:Array Value:=formC 0 zeros61

def totalM(c:Cup)(s:Nat):Int:=((countedL c s).map fun i=>scoreAt c i.toNat s).sum
def oftenUpTo(c:Cup)(s k:Nat)(p:Nat):Int:=if p=0 then 0 else ((c.done.take k).countP (fun r=>decide (r.getD s 0=(p:Int))):Nat)
def placesUpTo(c:Cup)(s k:Nat):List Int:=(List.range 61).map (oftenUpTo c s k)
def placesM(c:Cup)(s:Nat):List Int:=placesUpTo c s c.done.length
def formM(c:Cup)(s:Nat):Array Value:=formC (totalM c s) (placesM c s)

theorem zero136:∀ w,(zeroValue 136).run Tryz.prog w = .ok (.agg formZ) w:=fun w=>by rw [Tryz.zeroValue136];rfl
theorem size136:(Tryz.prog.info? 136).map (·.size)=some 62:=by kernel_rfl

theorem formC_size(t:Int)(pl:List Int):(formC t pl).size=pl.length+1:=by simp [formC]
theorem formC_0(t:Int)(pl:List Int):(formC t pl)[0]? = some (.int .i64 t):=by simp [formC]
theorem formC_p(t:Int)(pl:List Int)(p:Nat)(h:p<pl.length):(formC t pl)[1+p]? = some (.int .i64 pl[p]):=by
  rw [Nat.add_comm]
  simp [formC,h]
theorem formC_set0(t t':Int)(pl:List Int):(formC t pl).setIfInBounds 0 (.int .i64 t')=formC t' pl:=by simp [formC]
theorem formC_setp(t:Int)(pl:List Int)(p:Nat)(x:Int):(formC t pl).setIfInBounds (1+p) (.int .i64 x)=formC t (pl.set p x):=by
  rw [Nat.add_comm]
  simp [formC,List.map_set]
theorem formC_one(t:Int)(pl:List Int):(formC t pl).all (·.oneCell')=true:=by
  rw [Array.all_eq_true_iff_forall_mem]
  intro v hv
  simp only [formC,List.mem_toArray,List.mem_cons,List.mem_map] at hv
  rcases hv with rfl | ⟨x,_,rfl⟩ <;> rfl

theorem placesUpTo_length(c:Cup)(s k:Nat):(placesUpTo c s k).length=61:=by simp [placesUpTo]
theorem placesUpTo_zero(c:Cup)(s:Nat):placesUpTo c s 0=zeros61:=by
  unfold placesUpTo zeros61
  apply List.ext_getElem (by simp)
  intro i h1 h2
  simp only [List.getElem_map,List.getElem_range,List.getElem_replicate,oftenUpTo,List.take_zero,List.countP_nil]
  split <;> rfl
theorem placesUpTo_bd(c:Cup)(s k p:Nat)(h:p<(placesUpTo c s k).length):0≤(placesUpTo c s k)[p]∧(placesUpTo c s k)[p]≤k:=by
  simp only [placesUpTo,List.getElem_map,List.getElem_range,oftenUpTo]
  split
  · omega
  · have h1:(c.done.take k).countP (fun r=>decide (r.getD s 0=(p:Int)))≤(c.done.take k).length:=List.countP_le_length
    have h2:(c.done.take k).length≤k:=List.length_take_le _ _
    omega

theorem placesUpTo_none(c:Cup)(s k:Nat)(hk:k<c.done.length)(h:c.done[k].getD s 0=0):placesUpTo c s (k+1)=placesUpTo c s k:=by
  unfold placesUpTo
  apply List.map_congr_left
  intro p _
  unfold oftenUpTo
  split
  · rfl
  · rw [List.take_succ_eq_append_getElem hk,List.countP_append,List.countP_singleton,h]
    rw [if_neg (by simp;omega)]
    simp

theorem placesUpTo_some(c:Cup)(s k p:Nat)(hk:k<c.done.length)(h:c.done[k].getD s 0=(p:Int))(hp:0<p)(hp2:p<61)(hl:p<(placesUpTo c s k).length) :
    placesUpTo c s (k+1)=(placesUpTo c s k).set p ((placesUpTo c s k)[p]+1):=by
  apply List.ext_getElem (by simp [placesUpTo])
  intro i h1 h2
  rw [List.getElem_set]
  simp only [placesUpTo,List.getElem_map,List.getElem_range,oftenUpTo]
  by_cases hi:p=i
  · subst hi
    rw [if_pos rfl,if_neg (by omega),if_neg (by omega),List.take_succ_eq_append_getElem hk,List.countP_append,List.countP_singleton,h]
    simp
  · rw [if_neg hi]
    split
    · rfl
    · rw [List.take_succ_eq_append_getElem hk,List.countP_append,List.countP_singleton,h]
      rw [if_neg (by simp;omega)]
      simp

theorem scoreM_bd(pts race:List Int)(s:Nat)(hpr:∀ x∈pts,0≤x∧x≤1000):0≤scoreM pts race s∧scoreM pts race s≤1000:=by
  unfold scoreM
  split
  · omega
  · have h1:=worthM_bd pts (race.getD s 0).toNat (race.count (race.getD s 0)) hpr
    generalize race.count (race.getD s 0)=m at *
    generalize worthM pts (race.getD s 0).toNat m=x at *
    by_cases hm:m=0
    · subst hm;simp
    · refine ⟨Int.ediv_nonneg h1.1 (by omega),?_⟩
      have:x / (m:Int)≤(1000*(m:Int)) / (m:Int):=Int.ediv_le_ediv (by omega) h1.2
      rwa [Int.mul_ediv_cancel _ (by omega)] at this

theorem countedL_mem{c:Cup}{s:Nat}{x:Int}(h:x∈countedL c s):∃ k:Nat,x=k∧k<c.done.length:=by
  unfold countedL at h
  rw [List.mem_mergeSort] at h
  exact idx_mem ((isort_mem _ _ _).1 (List.mem_of_mem_take h))
theorem countedL_length(c:Cup)(s:Nat):(countedL c s).length=min c.done.length c.be.toNat:=by
  unfold countedL
  rw [List.length_mergeSort,List.length_take,isort_length,idx_length]
  omega

def partTotal(c:Cup)(s k:Nat):Int:=(((countedL c s).take k).map fun i=>scoreAt c i.toNat s).sum
theorem partTotal_succ(c:Cup)(s k:Nat)(h:k<(countedL c s).length):partTotal c s (k+1)=partTotal c s k+scoreAt c (countedL c s)[k].toNat s:=by
  unfold partTotal
  rw [List.take_succ_eq_append_getElem h,List.map_append,List.sum_append]
  simp
theorem partTotal_bd(c:Cup)(hV:Valid c)(s:Nat):∀ k,0≤partTotal c s k∧partTotal c s k≤1000*k:=by
  intro k
  unfold partTotal
  have:=sum_bd (((countedL c s).take k).map fun i=>scoreAt c i.toNat s) (fun x hx=>by
    rw [List.mem_map] at hx
    obtain ⟨i,_,rfl⟩:=hx
    exact scoreM_bd _ _ _ hV.pts)
  have h2:(((countedL c s).take k).map fun i=>scoreAt c i.toNat s).length≤k:=by simp;omega
  omega

theorem sumR_two(a b:Int)(h1:0≤a)(h2:a≤100000)(h3:0≤b)(h4:b≤100000):sumR [a,b]=a+b:=by
  unfold sumR
  simp only [List.foldl_cons,List.foldl_nil]
  unfold wrap64
  omega

theorem ints_two(w:World)(a b:Int):Ints (w.alloc (.cells #[.int .i64 a,.int .i64 b] 3)) (.slice (some ⟨w.heap.size,0,none⟩) 2 2) [a,b]:=by
  refine ⟨some ⟨w.heap.size,0,none⟩,2,rfl,by simp,by simp [maxLen],fun i hi=>⟨w.heap.size,0,.int .i64 [a,b][i],rfl,?_,rfl⟩⟩
  simp only [List.length_cons,List.length_nil] at hi
  match i,hi with
  | 0,_=>simp
  | 1,_=>simp

abbrev formW(w:World)(c:Cup)(vp vd:Value):World:=((w.alloc (deskBox c vp vd)).alloc (.cells formZ 136)).alloc (.cells formZ 136)

theorem formW_below(w:World)(c:Cup)(vp vd:Value):Below w.heap.size w (formW w c vp vd) :=
  (((Below.refl _ w).alloc (Nat.le_refl _) _).alloc (by simp) _).alloc (by simp;omega) _
theorem formW_size(w:World)(c:Cup)(vp vd:Value):(formW w c vp vd).heap.size=w.heap.size+3:=by simp
theorem formW_b5(w:World)(c:Cup)(vp vd:Value):(formW w c vp vd).heap[w.heap.size+2]? = some (.cells formZ 136 (0,0)):=by
  have:=heap_alloc_new ((w.alloc (deskBox c vp vd)).alloc (.cells formZ 136)) (.cells formZ 136)
  simpa using this
theorem formW_b4(w:World)(c:Cup)(vp vd:Value):(formW w c vp vd).heap[w.heap.size+1]? = some (.cells formZ 136 (0,0)):=by
  have:=heap_alloc_new (w.alloc (deskBox c vp vd)) (.cells formZ 136)
  rw [Go.heap_alloc_old _ _ (by simp)]
  simpa using this
theorem formW_b2(w:World)(c:Cup)(vp vd:Value):(formW w c vp vd).heap[w.heap.size]? = some (deskBox c vp vd):=by
  rw [Go.heap_alloc_old _ _ (by simp;omega),Go.heap_alloc_old _ _ (by simp)]
  exact heap_alloc_new w _

theorem desk_cells{W:World}{b:Nat}{c:Cup}{vp vd:Value}(h:W.heap[b]? = some (deskBox c vp vd)) :
    W.cell? ⟨b,0,none⟩=some (.int .i64 c.sk)∧W.cell? ⟨b,1,none⟩=some (.int .i64 c.ra)∧W.cell? ⟨b,2,none⟩=some (.int .i64 c.be)∧W.cell? ⟨b,3,none⟩=some vp∧W.cell? ⟨b,4,none⟩=some vd:=by
  refine ⟨?_,?_,?_,?_,?_⟩ <;> rw [cell_of_row _ _ _ _ _ _ h] <;> rfl

theorem grown_set(w:World)(b o:Nat)(u:Value):w.grownBy (w.setCell ⟨b,o,none⟩ u) (some b) :=
  ⟨rfl,rfl,rfl,by simp,fun q _ hq=>heap_setCell_other w ⟨b,o,none⟩ q u (fun e=>hq (by simp [e]))⟩

set_option maxHeartbeats 2000000 in
set_option maxRecDepth 1000000 in
theorem form_any(c:Cup)(hV:Valid c)(v:Value)(s:Nat)(w:World)(hv:CupAt w v c)(hs:(s:Int)<c.sk) :
    Calls Tryz.prog 103 #[v,.int .i64 s] w (Ret (.agg (formM c s)) w):=by
  obtain ⟨vp,vd,rfl,hp,hd⟩:=hv
  have HCN:=hid (counted_any c hV _ s (formW w c vp vd) ⟨vp,vd,rfl,ints_below hp (formW_below w c vp vd),rows_below hd (formW_below w c vp vd)⟩ hs)
  have HP:=hid hp
  have HD:=hid hd
  obtain ⟨pd,cd,rfl,hd2,hd3,hdc⟩:=hd.open
  obtain ⟨pp,cp,rfl,hp2,hp3,_⟩:=hp.open
  unfold maxLen at hd3 hp3
  have hm:c.done.length≤20:=by have:=hV.dn;have:=hV.ra2;omega
  obtain ⟨W0,hW0⟩:∃ W0,W0=formW w c (.slice pp c.pts.length cp) (.slice pd c.done.length cd):=⟨_,rfl⟩
  have HW:=hid (hW0 ▸ formW_below w c (.slice pp c.pts.length cp) (.slice pd c.done.length cd))
  have HSZ:=hid (hW0 ▸ formW_size w c (.slice pp c.pts.length cp) (.slice pd c.done.length cd))
  have H5:=hid (hW0 ▸ formW_b5 w c (.slice pp c.pts.length cp) (.slice pd c.done.length cd))
  have H4:=hid (hW0 ▸ formW_b4 w c (.slice pp c.pts.length cp) (.slice pd c.done.length cd))
  have H2:=hid (hW0 ▸ formW_b2 w c (.slice pp c.pts.length cp) (.slice pd c.done.length cd))
  clear hp hd
  go_enter Tryz.func103,Tryz.ntmps103
  go_wp2_with (first | (with_reducible apply wpL_alloc formZ zero136 rfl) | (go_at_call 125;fail))
  rw [show (((w.alloc (.cells #[.int .i64 c.sk,.int .i64 c.ra,.int .i64 c.be,.slice pp c.pts.length cp,.slice pd c.done.length cd] 120)).alloc (.cells formZ 136)).alloc (.cells formZ 136))=W0 from hW0.symm]
  rw [← hW0] at HCN
  refine HCN.out.mono ?_
  rintro e w1 ⟨p,n,cap,rfl,hn,ho,hb⟩
  have HO:=hid ho
  have HN:=hid hn
  have HW1:=hid hb
  have hn1:n≤(countedL c s).length:=by omega
  have hn2:(countedL c s).length≤n:=by omega
  have hn3:n≤20:=by have:=countedL_length c s;omega
  clear ho hn hb HCN
  obtain ⟨B5,hB5⟩:∃ B5,B5=w.heap.size+1+1:=⟨_,rfl⟩
  obtain ⟨B4,hB4⟩:∃ B4,B4=w.heap.size+1:=⟨_,rfl⟩
  obtain ⟨B2,hB2⟩:∃ B2,B2=w.heap.size:=⟨_,rfl⟩
  rw [← hB5,← hB4,← hB2]
  have h5:w1.heap[B5]? = some (.cells formZ 136 (0,0)):=by rw [HW1.out.block B5 (by rw [HSZ.out];omega),hB5];exact H5.out
  have h4:w1.heap[B4]? = some (.cells formZ 136 (0,0)):=by rw [HW1.out.block B4 (by rw [HSZ.out];omega),hB4];exact H4.out
  have h2:w1.heap[B2]? = some (deskBox c (.slice pp c.pts.length cp) (.slice pd c.done.length cd)):=by rw [HW1.out.block B2 (by rw [HSZ.out];omega),hB2];exact H2.out
  have hbel:Below w.heap.size w w1:=HW.out.trans (HW1.out.mono (by rw [HSZ.out];omega))
  have HBL:=hid hbel
  have HBASE:=hid (show (formW w c (.slice pp c.pts.length cp) (.slice pd c.done.length cd)).heap.size=B5+1 by rw [formW_size];omega)
  have Hb5:=hid (show B5=w.heap.size+2 by omega)
  have Hb4:=hid (show B4=w.heap.size+1 by omega)
  have Hb2:=hid (show B2=w.heap.size by omega)
  have H5:=hid h5
  have H4:=hid h4
  have H2:=hid h2
  have HO2:Hid (OwnI w1 (B5+1) (.slice p n cap) (countedL c s)):=hid (by rw [← HBASE.out,← hW0];exact HO.out)
  clear h5 h4 h2 hbel hB5 hB4 hB2 HW1 HW HSZ hW0 HO HBASE
  have hsz1:=lt_of_block H5.out
  go_wp2
  go_loopw [14] (fun i wr=>∃ (k:Nat) ,k≤n∧i = .int .i64 k∧wr.heap[B5]? = some (.cells (formC (partTotal c s k) zeros61) 136 (0,0))∧w1.grownBy wr (some B5)) (fun i _=>n-(intOf i).toNat)
  case atStart=>exact ⟨0,Nat.zero_le _,rfl,H5.out,World.grownBy.refl _ _⟩
  case round =>
    obtain ⟨k,hk,rfl,h5,hg⟩:=hrel
    have hsz2:=Nat.lt_of_lt_of_le hsz1 hg.size
    have hBr:Below w.heap.size w wr:=HBL.out.grown hg HBL.out.size (fun q hq=>by cases hq;have:=Hb5.out;omega)
    have HBR:=hid hBr
    have HG:=hid hg
    have h2:wr.heap[B2]? = some (deskBox c (.slice pp c.pts.length cp) (.slice pd c.done.length cd)):=(hg.block B2 (lt_of_block H2.out) (by have:=Hb5.out;have:=Hb2.out;simp;omega)).trans H2.out
    obtain ⟨k0,k1,k2,k3,k4⟩:=desk_cells h2
    by_cases hlt:k<n
    · have hx:=List.getElem?_eq_getElem (l:=countedL c s) (show k<(countedL c s).length by omega)
      obtain ⟨j,hj,hjl⟩:=countedL_mem (List.getElem_mem (l:=countedL c s) (show k<(countedL c s).length by omega))
      have HPT:=hid (partTotal_succ c s k (by omega))
      obtain ⟨hpt1,hpt2⟩:=partTotal_bd c hV s k
      obtain ⟨hsb1,hsb2⟩:=scoreM_bd c.pts (c.done.getD j []) s hV.pts
      rw [hj] at hx HPT
      have hown:=World.ownsRow.kept HO2.out hg (by
        rcases HO2.out.2 with ⟨h0,_⟩ | ⟨g,_,_,h0,hgb,_⟩
        · left;rw [h0];rfl
        · right;rw [h0];simp [Value.ownBlock];omega)
      obtain ⟨g,rfl⟩:∃ g,p=some ⟨g,0,none⟩:=by
        rcases HO2.out.2 with ⟨h0,h1⟩ | ⟨g,_,_,h0,_⟩
        · omega
        · cases h0;exact ⟨g,rfl⟩
      have ho3:wr.ownsRow (B5+1) 3 1 (.slice (some ⟨g,0,none⟩) n cap) n ((countedL c s).map (Value.int .i64)):=by
        have:(countedL c s).length=n:=by omega
        rw [this] at hown
        exact hown
      have cx:=own_cell ho3 hx
      obtain ⟨b,o,u,rfl,hcu,hru⟩:=hdc j hjl
      have cu:=(hBr.cell (p:=⟨b,o+j,none⟩) (World.block_lt_of_cell? w _ hcu)).trans hcu
      have c5:wr.cell? ⟨B5,0,none⟩=some (.int .i64 (partTotal c s k)):=by rw [cell_of_row _ _ _ _ _ _ h5,formC_0]
      have HPA:=hid (fun (z:Later wr)=>points_at hV (ints_below HP.out (hBr.trans (z.h.mono hBr.size))) (rows_below HD.out (hBr.trans (z.h.mono hBr.size))) hs hjl (ints_below hru (hBr.trans (z.h.mono hBr.size))))
      have l0:=later_cell k0
      have l1:=later_cell k1
      have l2:=later_cell k2
      have l3:=later_cell k3
      have l4:=later_cell k4
      have lx:=later_cell cx
      have lu:=later_cell cu
      have l5:=later_cell c5
      have i1:(j:Int)<c.done.length:=by omega
      have H5:=hid h5
      have HJ:=hid hj
      have HSC:=hid (show scoreAt c j s=scoreM c.pts (c.done.getD j []) s from rfl)
      obtain ⟨sc,hsc⟩:∃ sc,sc=scoreAt c j s:=⟨_,rfl⟩
      obtain ⟨pt,hpt⟩:∃ pt,pt=partTotal c s k:=⟨_,rfl⟩
      rw [← hsc] at HPA HSC
      rw [← HSC.out] at hsb1 hsb2
      rw [← hpt] at hpt1 hpt2 l5
      have HSCE:=hid hsc
      have HPTE:=hid hpt
      clear h5 hg hBr h2 k0 k1 k2 k3 k4 hdc hx hown ho3 hcu hru cu c5 hj hsc hpt HSC
      go_wp2
      refine wp_region_qT 12 (by kernel_rfl) (by kernel_rfl) ?_
      simp only [List.take_succ_cons,List.take_zero,List.drop_succ_cons,List.drop_zero]
      repeat (go_big_quiet_step ((go_at_call 102;with_reducible exact Later.call _ (HPA.out _))))
      refine wpQuiet_nil (later_all fun w2 hb2 => ?_)
      have h5a:w2.heap[B5]? = some (.cells (formC pt zeros61) 136 (0,0)):=by rw [hb2.block B5 (by omega),HPTE.out];exact H5.out
      have HSUM:=hid (sum_any _ _ (w2.alloc (.cells #[.int .i64 pt,.int .i64 sc] 3)) (ints_two w2 pt sc))
      rw [sumR_two pt sc hpt1 (by omega) hsb1 (by omega)] at HSUM
      have c5a:w2.cell? ⟨B5,0,none⟩=some (.int .i64 pt):=by rw [cell_of_row _ _ _ _ _ _ h5a,formC_0]
      have f5a:=frozen_of_row _ _ 0 _ _ h5a
      have hB52:=lt_of_block h5a
      have H5A:=hid h5a
      have HB2:=hid hb2
      clear h5a hb2 l0 l1 l2 l3 l4 lx lu l5 cx
      go_wp2_with (go_at_call 98;refine HSUM.out.mono ?_;rintro e w3 ⟨rfl,rfl⟩)
      go_roundw
      case rel =>
        refine ⟨k+1,by omega,by go_num,?_,?_⟩
        · rw [HPT.out]
          simp only [Int.toNat_natCast]
          rw [← HSCE.out,← HPTE.out,← formC_set0 pt (pt+sc)]
          rw [Go.heap_alloc_old _ _ (by simpa using hB52)]
          exact heap_setCell_same _ _ _ _ _ _ H5A.out
        · exact grown_then (grown_then (grown_then_below HG.out HB2.out) (grown_set w2 B5 0 _)) (World.grownBy_alloc _ _ _)
      case measure=>simp [intOf];omega
    · have hk2:k=(countedL c s).length:=by omega
      have hpt:partTotal c s k=totalM c s:=by unfold partTotal totalM;rw [hk2,List.take_length]
      rw [hpt] at h5
      have H5:=hid h5
      clear hpt hk2 h5 h2 hg hBr
      have HG:=hid (grown_then HG.out (World.grownBy.refl wr (some B5)))
      obtain ⟨wo,hwo⟩:∃ wo:World,wo=wr:=⟨_,rfl⟩
      rw [← hwo] at H5 HG HBR
      go_wp2
      rw [← hwo]
      clear hwo HBR k0 k1 k2 k3 k4
      go_loopw [38] (fun i wr=>∃ (k:Nat) ,k≤c.done.length∧i = .int .i64 k∧wr.heap[B5]? = some (.cells (formC (totalM c s) (placesUpTo c s k)) 136 (0,0))∧w1.grownBy wr (some B5)) (fun i _=>c.done.length-(intOf i).toNat)
      case atStart=>exact ⟨0,Nat.zero_le _,rfl,by rw [placesUpTo_zero];exact H5.out,HG.out⟩
      case round =>
        clear H5 HG hsz2
        obtain ⟨k,hk,rfl,h5,hg⟩:=hrel
        have hBr:Below w.heap.size w wr:=HBL.out.grown hg HBL.out.size (fun q hq=>by cases hq;have:=Hb5.out;omega)
        have HG:=hid hg
        have HBR:=hid hBr
        by_cases hlt:k<c.done.length
        · have hm2:c.done[k]∈c.done:=by simp
          have hrl:=hV.len _ hm2
          have hrr:=hV.rows _ hm2
          obtain ⟨b,o,u,rfl,hcu,hru⟩:=hdc k hlt
          have cu:=(hBr.cell (p:=⟨b,o+k,none⟩) (World.block_lt_of_cell? w _ hcu)).trans hcu
          obtain ⟨q,qc,rfl,hq1,hq2,hqc⟩:=(ints_below hru hBr).open
          obtain ⟨b',o',rfl,hcs⟩:=hqc s (by omega)
          have hx:=hrr c.done[k][s] (by simp)
          have hgd:=getD_at c.done[k] s (by omega)
          have hsl:s<c.done[k].length:=by omega
          have hsl2:(s:Int)<c.done[k].length:=by omega
          unfold maxLen at hq2
          obtain ⟨x,hxe⟩:∃ x,x=c.done[k][s]:=⟨_,rfl⟩
          obtain ⟨rl,hrle⟩:∃ rl,rl=c.done[k].length:=⟨_,rfl⟩
          rw [← hxe] at hx hgd hcs
          rw [← hrle] at hsl hsl2 hq1 hrl cu
          have HGD:=hid hgd
          have hkl:(k:Int)<c.done.length:=by omega
          have H5:=hid h5
          clear h5 hg hBr hcu hru hqc hrr hm2 hxe hgd hrle hdc
          by_cases hx0:x=0
          · have HE:=hid (placesUpTo_none c s k hlt (by rw [HGD.out,hx0]))
            clear HGD hx
            subst hx0
            go_wp2
            go_roundw
            case rel=>exact ⟨k+1,by omega,by go_num,by rw [HE.out];exact H5.out,HG.out⟩
            case measure=>simp [intOf];omega
          · obtain ⟨pn,rfl⟩:∃ pn:Nat,x=pn:=⟨x.toNat,by omega⟩
            have hpl:pn<(placesUpTo c s k).length:=by rw [placesUpTo_length];omega
            have HE:=hid (placesUpTo_some c s k pn hlt HGD.out (by omega) (by omega) hpl)
            obtain ⟨hb1,hb2⟩:=placesUpTo_bd c s k pn hpl
            have cp5:wr.cell? ⟨B5,1+pn,none⟩=some (.int .i64 (placesUpTo c s k)[pn]):=by rw [cell_of_row _ _ _ _ _ _ H5.out,formC_p _ _ _ hpl]
            have fp5:=frozen_of_row _ _ (1+pn) _ _ H5.out
            obtain ⟨y,hy⟩:∃ y,y=(placesUpTo c s k)[pn]:=⟨_,rfl⟩
            rw [← hy] at hb1 hb2 cp5 HE
            have hpos:(0:Int)<pn:=by omega
            have hpn:pn≤60:=by omega
            clear HGD hx hpl hy hx0
            go_wp2
            go_roundw
            case rel=>exact ⟨k+1,by omega,by go_num,by rw [HE.out,← formC_setp];exact heap_setCell_same _ _ _ _ _ _ H5.out,grown_then HG.out (grown_set wr B5 (1+pn) _)⟩
            case measure=>simp [intOf];omega
        · have hk2:k=c.done.length:=by omega
          have hpl:placesUpTo c s k=placesM c s:=by unfold placesM;rw [hk2]
          rw [hpl] at h5
          have h4:wr.heap[B4]? = some (.cells formZ 136 (0,0)):=(hg.block B4 (lt_of_block H4.out) (by have:=Hb5.out;have:=Hb4.out;simp;omega)).trans H4.out
          have H5':=hid h5
          have H4':=hid h4
          have hfs:(formC (totalM c s) (placesM c s)).size=62:=by rw [formC_size];unfold placesM;rw [placesUpTo_length]
          have HFS:=hid (show (Tryz.prog.info? 136).map (·.size)=some (formC (totalM c s) (placesM c s)).size by rw [hfs];exact size136)
          have HFZ:=hid (show (formC (totalM c s) (placesM c s)).size=formZ.size by rw [hfs];rfl)
          have hlt4:=lt_of_block h4
          clear h5 h4 hg hBr hpl hfs hdc hk2
          go_wp2_with (first
            | ((with_reducible apply wpL_loadRow (hg:=H5'.out) (hu:=Tryz.underlying136) (hi:=HFS.out));rfl;rfl)
            | ((with_reducible apply wpL_storeRow (hg:=H4'.out) (hi:=HFS.out) (hsz:=HFZ.out) (h1:=formC_one _ _));rfl;rfl;intro w4 h4a hg4;have H4A:=hid h4a;have HG4:=hid hg4;clear h4a hg4))
          refine bodyPost_ret (results_cell_row rfl _ _ B4 136 _ (0,0) _ rfl H4A.out Tryz.underlying136 rfl HFS.out) rfl ⟨rfl,?_⟩
          exact HBR.out.grown HG4.out HBR.out.size (fun q hq=>by cases hq;have:=Hb4.out;omega)
end KL
end Go.Proofs
end
section
namespace Go.Proofs
open Go.RowKit Go.Lib Go.Sort
namespace KL

section
variable {P:Program}
theorem all_range_eqI:∀ (xs ys:List Int),xs.length=ys.length→((List.range xs.length).all fun i=>xs.getD i 0 == ys.getD i 0)=decide (xs=ys)
  | [],[],_=>rfl
  | x::xs,y::ys,h=>by
    have ih:=all_range_eqI xs ys (by simpa using h)
    rw [List.length_cons,List.range_succ_eq_map,List.all_cons,List.all_map]
    simp only [List.getD_cons_zero,Function.comp_def,List.getD_cons_succ,ih]
    by_cases hxy:x=y
    · subst hxy;simp
    · simp [hxy]
  | [],_::_,h=>by simp at h
  | _::_,[],h=>by simp at h

theorem eqItems_ints(w:World)(d e:Nat)(he:P.underlying e=some (.int .i64))(xs ys:List Int)(n:Nat)(hx:xs.length=n)(hy:ys.length=n) :
    ∀ is:List Nat,(∀ i∈is,i<n)→(Op.eqItems (d+1) e 1 (xs.map (Value.int .i64)).toArray (ys.map (Value.int .i64)).toArray is).run P w = .ok (is.all fun i=>xs.getD i 0 == ys.getD i 0) w
  | [],_=>by simp [Op.eqItems]
  | i::is,h=>by
    have hi:=h i (by simp)
    have ih:=eqItems_ints w d e he xs ys n hx hy is (fun j hj=>h j (by simp [hj]))
    have px:(part e (xs.map (Value.int .i64)).toArray (i*1)).run P w = .ok (.int .i64 (xs.getD i 0)) w:=by
      simp [part,isAgg,run_underlying he,List.getD,List.getElem?_eq_getElem (show i<xs.length by omega)]
    have py:(part e (ys.map (Value.int .i64)).toArray (i*1)).run P w = .ok (.int .i64 (ys.getD i 0)) w:=by
      simp [part,isAgg,run_underlying he,List.getD,List.getElem?_eq_getElem (show i<ys.length by omega)]
    have pe:=run_equalIn_int (P:=P) w d e .i64 .i64 (xs.getD i 0) (ys.getD i 0) he
    simp only [Op.eqItems,Sem.run_bind,px,py,pe,Result.andThen_ok,List.all_cons]
    cases hb:(xs.getD i 0 == ys.getD i 0)
    · simp
    · simp only [Bool.not_true,Bool.false_eq_true,if_false,Bool.true_and]
      exact ih

theorem run_equalIn_ints(w:World)(d:Nat){t e:TypeId}{n:Nat}{i:TypeInfo}(hu:P.underlying t=some (.array n e))(hi:P.info? e=some i)(hc:P.cellsOf e=1)(he:P.underlying e=some (.int .i64))(xs ys:List Int)(hx:xs.length=n)(hy:ys.length=n) :
    (Op.equalIn (d+2) t (.agg (xs.map (Value.int .i64)).toArray) (.agg (ys.map (Value.int .i64)).toArray)).run P w = .ok (decide (xs=ys)) w:=by
  rw [run_equalIn_array w (d+1) _ _ hu hi,hc,eqItems_ints w d e he xs ys n hx hy _ (fun i hi=>List.mem_range.1 hi),← hx,all_range_eqI xs ys (hx.trans hy.symm)]
end

theorem info3some:∃ i,Tryz.prog.info? 3=some i:=by
  have:=info3
  cases h:Tryz.prog.info? 3 with
  | none=>simp [h] at this
  | some i=>exact ⟨i,rfl⟩

theorem cellsOf3:Tryz.prog.cellsOf 3=1:=by kernel_rfl

theorem eq_places(w:World)(p1 p2:List Int)(h1:p1.length=61)(h2:p2.length=61)(d:Nat) :
    (Op.equalIn (d+2) 134 (.agg (p1.map (Value.int .i64)).toArray) (.agg (p2.map (Value.int .i64)).toArray)).run Tryz.prog w = .ok (decide (p1=p2)) w:=by
  obtain ⟨i,hi⟩:=info3some
  exact run_equalIn_ints w d Tryz.underlying134 hi cellsOf3 Tryz.underlying3 p1 p2 h1 h2

theorem extract_form(t:Int)(p:List Int)(h:p.length=61):(formC t p).extract 1 62=(p.map (Value.int .i64)).toArray:=by
  unfold formC
  apply Array.ext'
  simp [List.take_of_length_le,h]

theorem pa3(w:World)(t:Int)(p:List Int):(part 3 (formC t p) 0).run Tryz.prog w = .ok (.int .i64 t) w:=by
  simp [part,isAgg,run_underlying Tryz.underlying3,formC_0]
theorem pb134(w:World)(t:Int)(p:List Int)(hp:p.length=61):(part 134 (formC t p) 1).run Tryz.prog w = .ok (.agg (p.map (Value.int .i64)).toArray) w:=by
  simp only [part,Sem.run_bind,Tryz.isAgg134 w,Result.andThen_ok,if_true,Tryz.sizeOf134 w,Sem.run_pure]
  rw [extract_form t p hp]

theorem eq_fields(w : World)(d : Nat)(t1 t2 : Int)(p1 p2 : List Int)(h1 : p1.length = 61)(h2 : p2.length = 61)(f g : Field)(hf1 : f.name ≠ "_")(hf2 : f.type = 3)(hf3 : f.offset = 0)(hg1 : g.name ≠ "_")(hg2 : g.type = 134)(hg3 : g.offset = 1) :
    (Op.eqFields (d+2) (formC t1 p1) (formC t2 p2) [f,g]).run Tryz.prog w = .ok (decide (t1=t2∧p1=p2)) w:=by
  have e1:(Op.equalIn (d+2) 3 (.int .i64 t1) (.int .i64 t2)).run Tryz.prog w = .ok (t1 == t2) w:=run_equalIn_int (P:=Tryz.prog) w (d+1) 3 .i64 .i64 t1 t2 Tryz.underlying3
  have e2:=eq_places w p1 p2 h1 h2 d
  rw [Op.eqFields,if_pos hf1,hf2,hf3,Sem.run_bind,pa3,Result.andThen_ok,Sem.run_bind,pa3,Result.andThen_ok,Sem.run_bind,e1,Result.andThen_ok]
  by_cases ht:t1=t2
  · subst ht
    rw [beq_self_eq_true,if_neg (by decide),Op.eqFields,if_pos hg1,hg2,hg3,Sem.run_bind,pb134 w t1 p1 h1,Result.andThen_ok,Sem.run_bind,pb134 w t1 p2 h2,Result.andThen_ok,Sem.run_bind,e2,Result.andThen_ok]
    by_cases hp:p1=p2
    · rw [decide_eq_true hp,decide_eq_true (p:=t1=t1∧p1=p2) ⟨rfl,hp⟩,if_neg (by decide),Op.eqFields,Sem.run_pure]
    · rw [decide_eq_false hp,decide_eq_false (fun h=>hp h.2),if_pos (by decide),Sem.run_pure]
  · have hb:(t1 == t2)=false:=by simp [ht]
    rw [hb,decide_eq_false (fun h=>ht h.1),if_pos (by decide),Sem.run_pure]

theorem eq_form(w:World)(d:Nat)(t1 t2:Int)(p1 p2:List Int)(h1:p1.length=61)(h2:p2.length=61) :
    (Op.equalIn (d+3) 136 (.agg (formC t1 p1)) (.agg (formC t2 p2))).run Tryz.prog w = .ok (decide (t1=t2∧p1=p2)) w:=by
  have hf:Tryz.prog.underlying 136=some (.struct (Tryz.prog.fieldsOf 136)):=by simp only [Program.fieldsOf,Tryz.underlying136]
  rw [run_equalIn_struct (P:=Tryz.prog) w (d+2) 136 _ _ hf Tryz.stoodInHeld136]
  simp only [Program.fieldsOf,Tryz.underlying136]
  exact eq_fields w d t1 t2 p1 p2 h1 h2 _ _ (by decide) rfl rfl (by decide) rfl rfl

section
variable {ops:Array Oper} {rest:List Oper} {dst:Option Tmp} {ty:TypeId} {pos:String} {af:Array Edge} {a:Act} {w:World} {Q:Exit→Act→World→Prop}
theorem wpL_eqForm{x y:Operand}{t1 t2:Int}{p1 p2:List Int}{t':TypeId}{b:Bool}(h1:p1.length=61)(h2:p2.length=61)(hb:decide (t1=t2∧p1=p2)=b)
    (hx:a.eval x = .agg (formC t1 p1)) (hy:a.eval y = .agg (formC t2 p2)) (h:wpList Tryz.prog ops Q rest (a.put dst (.bool b)) w) :
    wpList Tryz.prog ops Q ({ dst:=dst,op := .binOp .eql 136 x y t',type:=ty,pos:=pos,after:=af,guard:=none }::rest) a w:=by
  refine wpList_plain rfl fun K hK => ?_
  have hg:=run_eqGuard_agg (P:=Tryz.prog) w .eql 136 x y (formC t1 p1) (formC t2 p2) Tryz.eqGuardType136
  have he:=run_eql_struct (P:=Tryz.prog) w 136 (formC t1 p1) (formC t2 p2)
  rw [eq_form w 9997 t1 t2 p1 p2 h1 h2,hb] at he
  unfold Oper.wp
  simp only [execOp,hx,hy,Sem.run_bind,hg,he,Result.andThen_ok]
  exact hK _ _ h

theorem wpL_eqPlaces{x y:Operand}{p1 p2:List Int}{t':TypeId}{b:Bool}(h1:p1.length=61)(h2:p2.length=61)(hb:decide (p1=p2)=b)
    (hx:a.eval x = .agg (p1.map (Value.int .i64)).toArray) (hy:a.eval y = .agg (p2.map (Value.int .i64)).toArray) (h:wpList Tryz.prog ops Q rest (a.put dst (.bool b)) w) :
    wpList Tryz.prog ops Q ({ dst:=dst,op := .binOp .eql 134 x y t',type:=ty,pos:=pos,after:=af,guard:=none }::rest) a w:=by
  refine wpList_plain rfl fun K hK => ?_
  have hg:=run_eqGuard_agg (P:=Tryz.prog) w .eql 134 x y (p1.map (Value.int .i64)).toArray (p2.map (Value.int .i64)).toArray Tryz.eqGuardType134
  have he:=run_eql_struct (P:=Tryz.prog) w 134 (p1.map (Value.int .i64)).toArray (p2.map (Value.int .i64)).toArray
  rw [eq_places w p1 p2 h1 h2 9998,hb] at he
  unfold Oper.wp
  simp only [execOp,hx,hy,Sem.run_bind,hg,he,Result.andThen_ok]
  exact hK _ _ h

theorem wpL_loadPlaces{x:Operand}{g:Nat}{t:Int}{p:List Int}{e:TypeId}(hg:w.heap[g]? = some (.cells (formC t p) e (0,0)))(hp:p.length=61)
    (hx:a.eval x = .pointer (some ⟨g,1,none⟩)) (h:wpList Tryz.prog ops Q rest (a.put dst (.agg (p.map (Value.int .i64)).toArray)) w) :
    wpList Tryz.prog ops Q ({ dst:=dst,op := .load 134 x,type:=ty,pos:=pos,after:=af,guard:=none }::rest) a w:=by
  have hr:=World.rangeAt_of_block hg 1 61
  rw [show 1+61=62 from rfl,extract_form t p hp] at hr
  refine wpList_load_mid rfl 134 x rfl g 1 hx _ _ hr Tryz.underlying134 rfl ?_ ?_
  · simp only [List.length_map,hp];kernel_rfl
  · simpa using h
end

def lexFrom(p1 p2:List Int):Nat→Nat→Bool
  | 0,_=>false
  | f+1,i=>if p1.getD i 0=p2.getD i 0 then lexFrom p1 p2 f (i+1) else decide (p2.getD i 0<p1.getD i 0)
def betterF(t1 t2:Int)(p1 p2:List Int):Bool:=if t1=t2 then lexFrom p1 p2 60 1 else decide (t2<t1)

theorem lexFrom_same(p:List Int):∀ f i,lexFrom p p f i=false
  | 0,_=>rfl
  | f+1,i=>by rw [lexFrom,if_pos rfl];exact lexFrom_same p f (i+1)

set_option maxHeartbeats 2000000 in
set_option maxRecDepth 1000000 in
theorem better_any(t1 t2:Int)(p1 p2:List Int)(h1:p1.length=61)(h2:p2.length=61)(w:World) :
    Calls Tryz.prog 108 #[.agg (formC t1 p1),.agg (formC t2 p2)] w (Ret (.bool (betterF t1 t2 p1 p2)) w):=by
  have HW:=hid (((Below.refl w.heap.size w).alloc (Nat.le_refl _) (.cells (formC t1 p1) 136)).alloc (by simp) (.cells (formC t2 p2) 136))
  obtain ⟨W0,hW0⟩:∃ W0,W0=(w.alloc (.cells (formC t1 p1) 136)).alloc (.cells (formC t2 p2) 136):=⟨_,rfl⟩
  have g1:W0.heap[w.heap.size]? = some (.cells (formC t1 p1) 136 (0,0)):=by
    rw [hW0,Go.heap_alloc_old _ _ (by simp)];exact heap_alloc_new w _
  have g2:W0.heap[w.heap.size+1]? = some (.cells (formC t2 p2) 136 (0,0)):=by
    rw [hW0];have:=heap_alloc_new (w.alloc (.cells (formC t1 p1) 136)) (.cells (formC t2 p2) 136);simpa using this
  rw [← hW0] at HW
  have HW0:=hid hW0
  have c1:W0.cell? ⟨w.heap.size,0,none⟩=some (.int .i64 t1):=by rw [cell_of_row _ _ _ _ _ _ g1,formC_0]
  have c2:W0.cell? ⟨w.heap.size+1,0,none⟩=some (.int .i64 t2):=by rw [cell_of_row _ _ _ _ _ _ g2,formC_0]
  have cp1:∀ i,i<61→W0.cell? ⟨w.heap.size,1+i,none⟩=some (.int .i64 (p1.getD i 0)):=fun i hi=>by rw [cell_of_row _ _ _ _ _ _ g1,formC_p _ _ _ (by omega),getD_at _ _ (by omega)]
  have cp2:∀ i,i<61→W0.cell? ⟨w.heap.size+1,1+i,none⟩=some (.int .i64 (p2.getD i 0)):=fun i hi=>by rw [cell_of_row _ _ _ _ _ _ g2,formC_p _ _ _ (by omega),getD_at _ _ (by omega)]
  have G1:=hid g1
  have G2:=hid g2
  have CP1:=hid cp1
  have CP2:=hid cp2
  have H1:=hid h1
  have H2:=hid h2
  have HS:=hid (show (Tryz.prog.info? 136).map (·.size)=some (formC t1 p1).size by rw [formC_size,h1];exact size136)
  have HS2:=hid (show (Tryz.prog.info? 136).map (·.size)=some (formC t2 p2).size by rw [formC_size,h2];exact size136)
  have L1:=hid (World.block_lt_of_cell? _ _ c1)
  clear hW0 g1 g2 cp1 cp2 h1 h2
  go_enter Tryz.func108,Tryz.ntmps108
  go_upto_region 1 with (fail)
  rw [← HW0.out]
  by_cases ht:t1=t2
  · have htt:(t1 != t2)=false:=by simp [ht]
    by_cases hp:p1=p2
    · have HE:=hid (show decide (t1=t2∧p1=p2)=true by simp [ht,hp])
      have HEP:=hid (show decide (p1=p2)=true by simp [hp])
      have hlt:¬ t2<t1:=by omega
      have HR:=hid (show betterF t1 t2 p1 p2=false by unfold betterF;rw [if_pos ht,hp];exact lexFrom_same _ _ _)
      clear ht hp htt
      go_wp2_with (first
        | ((with_reducible apply wpL_eqForm (h1:=H1.out) (h2:=H2.out) (hb:=HE.out));rfl;rfl)
        | ((with_reducible apply wpL_eqPlaces (h1:=H1.out) (h2:=H2.out) (hb:=HEP.out));rfl;rfl)
        | ((with_reducible apply wpL_loadPlaces (hg:=G1.out) (hp:=H1.out));rfl)
        | ((with_reducible apply wpL_loadPlaces (hg:=G2.out) (hp:=H2.out));rfl)
        | ((with_reducible apply wpL_loadRow (hg:=G1.out) (hu:=Tryz.underlying136) (hi:=HS.out));rfl;rfl)
        | ((with_reducible apply wpL_loadRow (hg:=G2.out) (hu:=Tryz.underlying136) (hi:=HS2.out));rfl;rfl))
      go_ret
      exact ⟨ret_bool HR.out.symm,HW.out⟩
    · have HE:=hid (show decide (t1=t2∧p1=p2)=false by simp [hp])
      have HEP:=hid (show decide (p1=p2)=false by simp [hp])
      have HR:=hid (show betterF t1 t2 p1 p2=lexFrom p1 p2 60 1 by unfold betterF;rw [if_pos ht])
      clear ht hp
      go_wp2_with (first
        | ((with_reducible apply wpL_eqForm (h1:=H1.out) (h2:=H2.out) (hb:=HE.out));rfl;rfl)
        | ((with_reducible apply wpL_eqPlaces (h1:=H1.out) (h2:=H2.out) (hb:=HEP.out));rfl;rfl)
        | ((with_reducible apply wpL_loadPlaces (hg:=G1.out) (hp:=H1.out));rfl)
        | ((with_reducible apply wpL_loadPlaces (hg:=G2.out) (hp:=H2.out));rfl)
        | ((with_reducible apply wpL_loadRow (hg:=G1.out) (hu:=Tryz.underlying136) (hi:=HS.out));rfl;rfl)
        | ((with_reducible apply wpL_loadRow (hg:=G2.out) (hu:=Tryz.underlying136) (hi:=HS2.out));rfl;rfl))
      go_loopw [5] (fun i wr=>∃ (k:Nat),1≤k∧k≤61∧i = .int .i64 k∧Below W0.heap.size W0 wr∧lexFrom p1 p2 60 1=lexFrom p1 p2 (61-k) k) (fun i _=>61-(intOf i).toNat)
      case atStart=>exact ⟨1,by omega,by omega,rfl,Below.refl _ _,rfl⟩
      case round =>
        clear c1 c2
        obtain ⟨k,hk1,hk2,rfl,hB,hL⟩:=hrel
        have HB:=hid hB
        have HL:=hid hL
        clear hL
        by_cases hlt:k≤60
        · have d1:=((bcell hB).1 w.heap.size (1+k) (by have:=L1.out;exact this)).trans (CP1.out k (by omega))
          have d2:=((bcell hB).1 (w.heap.size+1) (1+k) (by have:=lt_of_block G2.out;exact this)).trans (CP2.out k (by omega))
          have HN:=hid (show lexFrom p1 p2 (61-k) k=if p1.getD k 0=p2.getD k 0 then lexFrom p1 p2 (61-(k+1)) (k+1) else decide (p2.getD k 0<p1.getD k 0) by rw [show 61-k=(61-(k+1))+1 by omega,lexFrom])
          obtain ⟨x,hx⟩:∃ x,x=p1.getD k 0:=⟨_,rfl⟩
          obtain ⟨y,hy⟩:∃ y,y=p2.getD k 0:=⟨_,rfl⟩
          rw [← hx] at d1 HN
          rw [← hy] at d2 HN
          have l1:=later_cell d1
          have l2:=later_cell d2
          have i61:(k:Int)<61:=by omega
          clear hx hy hB
          by_cases hxy:x=y
          · have hb1:(x != y)=false:=by simp [hxy]
            have HXY:=hid hxy
            clear hxy
            go_wp2
            refine wp_region_qL (by kernel_rfl) (by kernel_rfl) ?_
            repeat (go_big_quiet_step (fail))
            refine wpQuiet_nil (later_all fun w2 hb2 => ?_)
            go_wp2
            go_roundw
            case rel=>exact ⟨k+1,by omega,by omega,by go_num,HB.out.trans (hb2.mono HB.out.size),by rw [HL.out,HN.out,if_pos HXY.out]⟩
            case measure=>simp [intOf];omega
          · have hb1:(x != y)=true:=by simp [hxy]
            have HXY:=hid hxy
            clear hxy
            go_wp2
            refine wp_region_qL (by kernel_rfl) (by kernel_rfl) ?_
            repeat (go_big_quiet_step (fail))
            refine wpQuiet_nil (later_all fun w2 hb2 => ?_)
            have d3:=((bcell hb2).1 w.heap.size (1+k) (World.block_lt_of_cell? _ _ d1)).trans d1
            have d4:=((bcell hb2).1 (w.heap.size+1) (1+k) (World.block_lt_of_cell? _ _ d2)).trans d2
            have l3:=later_cell d3
            have l4:=later_cell d4
            go_wp2
            refine wp_region_qL (by kernel_rfl) (by kernel_rfl) ?_
            repeat (go_big_quiet_step (fail))
            refine wpQuiet_nil (later_all fun w3 hb3 => ?_)
            go_wp2
            go_ret
            refine ⟨ret_bool ?_,HW.out.trans ((HB.out.trans (hb2.mono HB.out.size)).trans (hb3.mono (Nat.le_trans HB.out.size hb2.size)) |>.mono HW.out.size)⟩
            rw [HR.out,HL.out,HN.out,if_neg HXY.out]
        · have hk:k=61:=by omega
          have HE2:=hid (show lexFrom p1 p2 60 1=false by rw [HL.out,hk];rfl)
          clear hk
          go_wp2
          go_ret
          exact ⟨ret_bool (HR.out.trans HE2.out).symm,HW.out.trans (HB.out.mono HW.out.size)⟩
  · have htt:(t1 != t2)=true:=by simp [ht]
    have HE:=hid (show decide (t1=t2∧p1=p2)=false by simp [ht])
    have HEP:=hid (show decide (p1=p1)=true by simp)
    have HR:=hid (show betterF t1 t2 p1 p2=decide (t2<t1) by unfold betterF;rw [if_neg ht])
    clear ht
    go_wp2_with (first
      | ((with_reducible apply wpL_eqForm (h1:=H1.out) (h2:=H2.out) (hb:=HE.out));rfl;rfl)
      | ((with_reducible apply wpL_eqPlaces (h1:=H1.out) (h2:=H2.out) (hb:=HEP.out));rfl;rfl)
      | ((with_reducible apply wpL_loadPlaces (hg:=G1.out) (hp:=H1.out));rfl)
      | ((with_reducible apply wpL_loadPlaces (hg:=G2.out) (hp:=H2.out));rfl)
      | ((with_reducible apply wpL_loadRow (hg:=G1.out) (hu:=Tryz.underlying136) (hi:=HS.out));rfl;rfl)
      | ((with_reducible apply wpL_loadRow (hg:=G2.out) (hu:=Tryz.underlying136) (hi:=HS2.out));rfl;rfl))
    go_ret
    exact ⟨ret_bool HR.out.symm,HW.out⟩
end KL
end Go.Proofs
end
section
namespace Go.Proofs
open Go.RowKit Go.Lib Go.Sort Go.Shelf
namespace KL

attribute [local go_sem] Oper.semAt_some

def oth(skier:Nat)(k:Nat):List Nat:=(List.range k).filter (fun s=>decide (s≠skier))

theorem oth_succ_same(skier:Nat):oth skier (skier+1)=oth skier skier:=by simp [oth,List.range_succ]
theorem oth_succ_other(skier k:Nat)(h:k≠skier):oth skier (k+1)=oth skier k++[k]:=by simp [oth,List.range_succ,h]
theorem oth_prefix(skier:Nat){k m:Nat}(h:k≤m):oth skier k <+: oth skier m:=by
  obtain ⟨d,rfl⟩:=Nat.exists_eq_add_of_le h
  unfold oth
  rw [List.range_add,List.filter_append]
  exact List.prefix_append _ _
theorem oth_mem{skier k x:Nat}(h:x∈oth skier k):x<k∧x≠skier:=by simpa [oth] using h
theorem oth_lt(skier:Nat){k m:Nat}(h:k<m)(hk:k≠skier):(oth skier k).length<(oth skier m).length:=by
  have:=(oth_prefix skier (Nat.succ_le_of_lt h)).length_le
  rw [Nat.succ_eq_add_one,oth_succ_other skier k hk,List.length_append,List.length_singleton] at this
  omega

structure KpD (n₀ b:Nat) (A B:World):Prop where
  bel:Below n₀ A B
  one:B.heap[b]? = A.heap[b]?
  two:B.heap[b+1]? = A.heap[b+1]?

theorem KpD.refl(n₀ b:Nat)(A:World):KpD n₀ b A A:=⟨Below.refl _ _,rfl,rfl⟩
theorem KpD.trans{n₀ b:Nat}{A B C:World}(h:KpD n₀ b A B)(k:KpD n₀ b B C):KpD n₀ b A C:=⟨h.bel.trans k.bel,k.one.trans h.one,k.two.trans h.two⟩
theorem KpD.put{n₀ b:Nat}{w:World}(hn:n₀≤w.heap.size)(hb:b+1<w.heap.size)(W:World)(l:Nat)(o o':Obj)(hl:w.heap.size≤l)(h:W.heap[l]? = some o)(h1:o.isCells=false)(h2:o.isWalk=false):KpD n₀ b W (W.putObj l o') :=
  ⟨belowK_b hn W l o o' hl h h1 h2,(grownBy_putObj' W l o').block b (by have:=lt_of_block h;omega) (by simp;omega),(grownBy_putObj' W l o').block (b+1) (by have:=lt_of_block h;omega) (by simp;omega)⟩
theorem KpD.of_below{n₀ b:Nat}{A B:World}(h:Below A.heap.size A B)(hn:n₀≤A.heap.size)(hb:b+1<A.heap.size):KpD n₀ b A B :=
  ⟨h.mono hn,h.block _ (by omega),h.block _ hb⟩

set_option maxRecDepth 1000000 in
set_option maxHeartbeats 2000000 in
theorem others_iter(c:Cup)(hV:Valid c)(w0:World)(vp vd:Value)(hc:CupAt w0 (.agg #[.int .i64 c.sk,.int .i64 c.ra,.int .i64 c.be,vp,vd]) c)(n l b:Nat)(hn:1≤n)(skier:Nat)(J Jx:List Nat→World→Prop)
    (hY:∀ pre (x:Nat) W,J pre W→pre.length<(oth skier c.sk.toNat).length→YieldAt Fence.wide (n-1) Tryz.prog l #[.int .i64 x,.agg (formM c x)] W fun e W' =>
      (e = .returned (.bool true)∧J (pre++[x]) W'∧KpD w0.heap.size b W W')∨(e = .returned (.bool false)∧Jx (pre++[x]) W'))
    (W:World) (hJ:AbidesFrom W.heap.size J) (hB:Below w0.heap.size w0 W) (h1:W.heap[b]? = some (deskBox c vp vd)) (h2:W.heap[b+1]? = some (.cells #[.int .i64 skier] 3)) (h0:J [] W) :
    CallsIn Fence.wide n Tryz.prog 159 #[.func (.yield l) #[] #[],.pointer (some ⟨b,0,none⟩),.pointer (some ⟨b+1,0,none⟩)] W fun e W'=>(∃ v,e = .returned v) ∧
      ((∃ ys,ys=oth skier c.sk.toNat∧J ys W')∨(∃ pre,pre <+: oth skier c.sk.toNat∧Jx pre W')):=by
  have HJ:=hid hJ
  have HY:=hid hY
  have HB:=hid hB
  have H1:=hid h1
  have H2:=hid h2
  have HC:=hid hc
  have HJ0:=hid h0
  have hsk:=hV.sk2
  have hsk1:=hV.sk1
  clear hJ hY hB h0 hc
  obtain ⟨k0,k1,k2,k3,k4⟩:=desk_cells h1
  clear h1 h2
  refine callsIn_of_wp Tryz.func159 rfl trivial ?_ rfl
  simp only [Tryz.ntmps159,List.size_toArray,List.length_cons,List.length_nil,Nat.reduceAdd,Nat.reduceSub,Array.replicate_succ,Array.replicate_zero,List.push_toArray,List.append_toArray,List.nil_append,List.cons_append]
  gi_wp2
  clear k0 k1 k2 k3 k4
  gi_loopw [8] (fun i wr=>∃ k:Nat,(k:Int)≤c.sk∧i = .int .i64 k∧J (oth skier k) wr∧KpD w0.heap.size b W wr)
    (fun i _=>c.sk.toNat-(intOf i).toNat)
  case atStart=>exact ⟨0,by omega,rfl,HJ0.out,KpD.refl _ _ _⟩
  case round =>
    obtain ⟨k,hk,rfl,hJk,hK⟩:=hrel
    have HJK:=hid hJk
    have HK:=hid hK
    have hd1:wr.heap[b]? = some (deskBox c vp vd):=hK.one.trans H1.out
    have hd2:wr.heap[b+1]? = some (.cells #[.int .i64 skier] 3):=hK.two.trans H2.out
    have hlt1:=lt_of_block hd2
    obtain ⟨k0,k1,k2,k3,k4⟩:=desk_cells hd1
    have ks:wr.cell? ⟨b+1,0,none⟩=some (.int .i64 skier):=by rw [cell_of_row _ _ _ _ _ _ hd2];rfl
    have HBR:=hid (HB.out.trans hK.bel)
    clear hJk hK hd1 hd2
    by_cases hlt:(k:Int)<c.sk
    · by_cases hks:k=skier
      · subst hks
        have HE:=hid (oth_succ_same k)
        have hk2:(k:Int)<12:=by omega
        gi_wp2
        refine ⟨trivial,?_⟩
        gi_wp2
        refine ⟨fun _ h=>(by cases h),?_⟩
        gi_wp2
        go_roundw
        case rel=>exact ⟨k+1,by omega,by go_num,by rw [HE.out];exact HJK.out,HK.out⟩
        case measure=>simp [intOf];omega
      · have HE:=hid (oth_succ_other skier k hks)
        have hne:((k:Int) != skier)=true:=by simp;omega
        have HF:=hid (form_any c hV _ k wr (HC.out.below HBR.out) hlt)
        have HL:=hid (oth_lt skier (show k<c.sk.toNat by omega) hks)
        have HP:=hid (oth_prefix skier (show k+1≤c.sk.toNat by omega))
        have hk2:(k:Int)<12:=by omega
        have hbw:b+1<W.heap.size:=lt_of_block H2.out
        have HWR:=hid (fun w1 (hb1:Below wr.heap.size wr w1)=>HJ.out _ wr w1 none HJK.out (grown_of_below hb1 none) (fun r e=>by cases e))
        have HKD:=hid (fun w1 (hb1:Below wr.heap.size wr w1)=>HK.out.trans (KpD.of_below hb1 HBR.out.size hlt1))
        gi_wp2_with (first
          | (refine ⟨trivial,?_⟩;gi_at_call 103;refine (callsIn_wide.2 HF.out).mono ?_;clear HF;rintro e w1 ⟨rfl,hb1⟩;have HB1:=hid hb1;clear hb1;obtain ⟨fn,tmps,assign,body,hy,hR⟩:=HY.out _ k w1 (HWR.out w1 HB1.out) HL.out)
          | (refine hR.mono ?_;clear hR;rintro e w3 (⟨rfl,hJ3,hK3⟩ | ⟨rfl,hx⟩)))
        · go_roundw
          case rel=>exact ⟨k+1,by omega,by go_num,by rw [HE.out];exact hJ3,(HKD.out w1 HB1.out).trans hK3⟩
          case measure=>simp [intOf];omega
        · refine bodyPost_ret (results_none rfl _ _ _) rfl ?_
          exact ⟨⟨_,rfl⟩,.inr ⟨oth skier k++[k],HE.out ▸ HP.out,hx⟩⟩
    · have HE:=hid (show k=c.sk.toNat by omega)
      gi_wp2
      go_end0
      exact ⟨⟨_,rfl⟩,.inl (HE.out ▸ HJK.out)⟩

theorem others_any(c:Cup)(vp vd:Value)(skier:Nat)(w:World)(hp:Ints w vp c.pts)(hd:Rows w vd c.done) :
    Calls Tryz.prog 128 #[.agg #[.int .i64 c.sk,.int .i64 c.ra,.int .i64 c.be,vp,vd],.int .i64 skier] w fun e w' =>
      e = .returned (.func (.func 159) #[] #[.pointer (some ⟨w.heap.size,0,none⟩),.pointer (some ⟨w.heap.size+1,0,none⟩)])∧w'=(w.alloc (deskBox c vp vd)).alloc (.cells #[.int .i64 skier] 3):=by
  obtain ⟨pd,cd,rfl,hd2,hd3,_⟩:=hd.open
  obtain ⟨pp,cp,rfl,hp2,hp3,_⟩:=hp.open
  unfold maxLen at hd3 hp3
  go_enter Tryz.func128,Tryz.ntmps128
  go_wp2
  go_ret
  exact ⟨rfl,rfl⟩

theorem others_stops(c:Cup)(hV:Valid c)(w0:World)(vp vd:Value)(hc:CupAt w0 (.agg #[.int .i64 c.sk,.int .i64 c.ra,.int .i64 c.be,vp,vd]) c)(n b:Nat)(hn:1≤n)(skier:Nat)(w:World)
    (hB:Below w0.heap.size w0 w) (h1:w.heap[b]? = some (deskBox c vp vd)) (h2:w.heap[b+1]? = some (.cells #[.int .i64 skier] 3)) :
    SeqStopsK Fence.wide n Tryz.prog 159 #[.pointer (some ⟨b,0,none⟩),.pointer (some ⟨b+1,0,none⟩)] (fun x:Nat => #[Value.int .i64 x,.agg (formM c x)]) (KpD w0.heap.size b) (fun ys=>ys=oth skier c.sk.toNat) (fun pre=>pre <+: oth skier c.sk.toNat) (oth skier c.sk.toNat).length w :=
  fun l J Jx W hW hJ _ hY h0=>others_iter c hV w0 vp vd hc n l b hn skier J Jx hY W hJ (hB.trans (hW.mono hB.size)) ((hW.block b (lt_of_block h1)).trans h1) ((hW.block (b+1) (lt_of_block h2)).trans h2) h0
end KL
end Go.Proofs
end
section
namespace Go.Proofs
open Go.RowKit Go.Lib Go.Sort Go.Shelf
namespace KL

section
variable {F:Fence} {n:Nat} {P:Program} {ops:Array Oper} {rest:List Oper} {dst:Option Tmp} {ty:TypeId} {pos:String} {af:Array Edge} {a:Act} {w:World} {Q:Exit→Act→World→Prop}

theorem wpIL_alloc{t:TypeId}{z:Value}(Z:Array Value)(hz:∀ w,(zeroValue t).run P w = .ok z w)(hZ:z.cells=Z)
    (h:wpListIn F n P ops Q rest (a.put dst (.pointer (some ⟨w.heap.size,0,none⟩))) (w.alloc (.cells Z t))) :
    wpListIn F n P ops Q ({ dst:=dst,op := .alloc t,type:=ty,pos:=pos,after:=af,guard:=none }::rest) a w:=by
  subst hZ
  refine wpListIn_plain rfl fun K hK => ?_
  unfold Oper.wpIn
  refine ⟨by simp [Oper.about],?_⟩
  rw [Oper.semAt_plain F _ _ (by intro c hc';cases hc')]
  simp only [execOp,Instr.alloc,Sem.run_bind,hz,Result.andThen_ok,newVar,newRow,newObj]
  exact hK _ _ h

theorem wpIL_loadRow{t e:TypeId}{x:Operand}{g:Nat}{cs:Array Value}{d:TypeDesc}(hg:w.heap[g]? = some (.cells cs e (0,0)))
    (hu:P.underlying t=some d) (hd:(match d with | .struct _ | .array _ _=>true | _=>false)=true) (hi:(P.info? t).map (·.size)=some cs.size)
    (hx:a.eval x = .pointer (some ⟨g,0,none⟩))
    (h:wpListIn F n P ops Q rest (a.put dst (.agg cs)) w) :
    wpListIn F n P ops Q ({ dst:=dst,op := .load t x,type:=ty,pos:=pos,after:=af,guard:=none }::rest) a w:=by
  refine wpListIn_plain rfl fun K hK => ?_
  unfold Oper.wpIn
  refine ⟨by simp [Oper.about],?_⟩
  rw [Oper.semAt_plain F _ _ (by intro c hc';cases hc')]
  simp only [execOp,hx,Instr.loadAt,Instr.sureAddr,Sem.run_bind,Sem.run_pure,Result.andThen_ok,run_loadVar_row w g e t cs (0,0) d hg hu hd hi]
  exact hK _ _ h

theorem wpIL_storeRow{t e:TypeId}{x y:Operand}{g:Nat}{cs cells:Array Value}(hg:w.heap[g]? = some (.cells cs e (0,0)))(hi:(P.info? t).map (·.size)=some cells.size)
    (hsz:cells.size=cs.size) (h1:cells.all (·.oneCell')=true) (hx:a.eval x = .pointer (some ⟨g,0,none⟩)) (hy:a.eval y = .agg cells)
    (h:∀ w',w'.heap[g]? = some (.cells cells e (0,0))→w.grownBy w' (some g)→wpListIn F n P ops Q rest (a.put dst undef) w') :
    wpListIn F n P ops Q ({ dst:=dst,op := .store t x y,type:=ty,pos:=pos,after:=af,guard:=none }::rest) a w:=by
  refine wpListIn_plain rfl fun K hK => ?_
  unfold Oper.wpIn
  refine ⟨by simp [Oper.about],?_⟩
  rw [Oper.semAt_plain F _ _ (by intro c hc';cases hc')]
  have ht:w.there g 0 cells.size:=fun j hj=>by
    rw [Nat.zero_add,cell_of_row w g j cs e (0,0) hg,frozen_of_row w g j cs e hg]
    refine ⟨?_,rfl⟩
    rw [Array.getElem?_eq_getElem (by omega)]
    rfl
  simp only [execOp,hx,hy,Instr.storeAt,Instr.sureAddr,Sem.run_bind,Sem.run_pure,Result.andThen_ok,run_storeVar_mid w g 0 t cells ht hi h1]
  refine hK _ _ ?_
  obtain ⟨cs',h2,h3,_,h5,_,h7,_⟩:=heap_setCells g e cells.toList 0 w cs hg (by simp;omega)
  have:cs'=cells:=by
    apply Array.ext_getElem?
    intro j
    by_cases hj:j<cells.size
    · have:=h5 j (by simpa using hj)
      rw [Nat.zero_add] at this
      rw [this];simp
    · rw [Array.getElem?_eq_none (by omega),Array.getElem?_eq_none (by omega)]
  subst this
  exact h _ h2 h7
end

theorem ownFrom_size{β:Type}(B N:Nat):OwnFrom B (fun (_:β) W=>N≤W.heap.size):=fun _ _ _ _ hs hg _=>Nat.le_trans hs hg.size
theorem own_block{β:Type}(B:Nat)(f:β→Array Value)(t:TypeId)(fr:Nat × Nat):Own (fun s W=>W.heap[B]? = some (.cells (f s) t fr)):=fun s X Y row hs hg hrow =>
  (hg.block B (lt_of_block hs) (fun e=>by obtain ⟨o,ho,hc⟩:=hrow B e.symm;rw [hs] at ho;cases ho;cases hc)).trans hs

theorem formM_size(c:Cup)(s:Nat):(formM c s).size=62:=by unfold formM;rw [formC_size];unfold placesM;rw [placesUpTo_length]
theorem formM_Z(c:Cup)(s:Nat):(formM c s).size=formZ.size:=by rw [formM_size];rfl
theorem formM_one(c:Cup)(s:Nat):(formM c s).all (·.oneCell')=true:=formC_one _ _
theorem info136(c:Cup)(s:Nat):(Tryz.prog.info? 136).map (·.size)=some (formM c s).size:=by rw [formM_size];exact size136

def betS(c:Cup)(a b:Nat):Bool:=betterF (totalM c a) (totalM c b) (placesM c a) (placesM c b)
def rankM(c:Cup)(s:Nat):Int:=1+((oth s c.sk.toNat).countP (fun x=>betS c x s):Nat)
def rankUp(c:Cup)(s:Nat)(pre:List Nat):Int:=1+(pre.countP (fun x=>betS c x s):Nat)

theorem better_form(c:Cup)(a b:Nat)(w:World):Calls Tryz.prog 108 #[.agg (formM c a),.agg (formM c b)] w (Ret (.bool (betS c a b)) w):=by
  have h:∀ s,(placesM c s).length=61:=fun s=>by unfold placesM;rw [placesUpTo_length]
  exact better_any _ _ _ _ (h a) (h b) w

theorem info120(a b c d e:Value):(Tryz.prog.info? 120).map (·.size)=some (#[a,b,c,d,e]:Array Value).size:=by
  have:(Tryz.prog.info? 120).map (·.size)=some 5:=by kernel_rfl
  exact this

theorem zip2(p q:Nat)(a b:Value)(t:Array Value):(#[p,q].zip #[a,b]).foldl (fun t (x:Nat × Value)=>t.setIfInBounds x.1 x.2) t=(t.setIfInBounds p a).setIfInBounds q b:=by simp

theorem keepsFrom_of_below(B:Nat){W W':World}(h:Below W.heap.size W W'):KeepsFrom B W W':=⟨h.size,fun k o _ hk _=>(h.block k (lt_of_block hk)).trans hk⟩

theorem rankUp_snoc(c:Cup)(s:Nat)(pre:List Nat)(x:Nat):rankUp c s (pre++[x])=if betS c x s=true then rankUp c s pre+1 else rankUp c s pre:=by
  unfold rankUp
  rw [List.countP_append,List.countP_singleton]
  split <;> omega
theorem rankUp_bd(c:Cup)(s:Nat)(pre:List Nat):1≤rankUp c s pre∧rankUp c s pre≤1+pre.length:=by
  unfold rankUp
  have:=List.countP_le_length (p:=fun x=>betS c x s) (l:=pre)
  omega
theorem oth_length(s k:Nat):(oth s k).length≤k:=by
  unfold oth
  exact Nat.le_trans (List.length_filter_le _ _) (by simp)

attribute [local go_sem] Oper.semAt_some

set_option maxRecDepth 1000000 in
set_option maxHeartbeats 4000000 in
theorem rank_any(c:Cup)(hV:Valid c)(v:Value)(s:Nat)(w:World)(hv:CupAt w v c)(hs:(s:Int)<c.sk) :
    Calls Tryz.prog 104 #[v,.int .i64 s] w (Ret (.int .i64 (rankM c s)) w):=by
  have HC:=hid hv
  obtain ⟨vp,vd,rfl,hp,hd⟩:=hv
  have HP:=hid hp
  have HD:=hid hd
  obtain ⟨pd,cd,rfl,hd2,hd3,_⟩:=hd.open
  obtain ⟨pp,cp,rfl,hp2,hp3,_⟩:=hp.open
  unfold maxLen at hd3 hp3
  clear hp hd
  obtain ⟨vp,hvp⟩:∃ vp,vp=Value.slice pp c.pts.length cp:=⟨_,rfl⟩
  obtain ⟨vd,hvd⟩:∃ vd,vd=Value.slice pd c.done.length cd:=⟨_,rfl⟩
  have HBX:=hid (((Below.refl w.heap.size w).alloc (Nat.le_refl _) (deskBox c (Value.slice pp c.pts.length cp) (Value.slice pd c.done.length cd))))
  have HF:=hid (form_any c hV _ s (w.alloc (deskBox c (Value.slice pp c.pts.length cp) (Value.slice pd c.done.length cd))) (HC.out.below HBX.out) hs)
  refine (callsIn_wide (n:=3)).1 ?_
  refine callsIn_of_wp_marks Tryz.func104 rfl trivial ?_ rfl
  simp only [Tryz.ntmps104,List.size_toArray,List.length_cons,List.length_nil,Nat.reduceAdd,Nat.reduceSub,Array.replicate_succ,Array.replicate_zero,List.push_toArray,List.append_toArray,List.nil_append,List.cons_append]
  have HPX:=hid (fun W (h:Below w.heap.size w W)=>ints_below HP.out h)
  have HDX:=hid (fun W (h:Below w.heap.size w W)=>rows_below HD.out h)
  clear hvp hvd
  gi_wp2_with (first
    | (refine ⟨trivial,?_⟩;gi_at_call 103;refine (callsIn_wide.2 HF.out).mono ?_;clear HF;rintro e w1 ⟨rfl,hb1⟩;have HB1:=hid hb1;clear hb1)
    | (with_reducible apply wpIL_alloc formZ zero136 rfl)
    | ((with_reducible apply wpIL_storeRow (hg:=heap_alloc_new _ _) (hi:=info136 c s) (hsz:=formM_Z c s) (h1:=formM_one c s));rfl;rfl;intro w2 h2 hg2
       have H5:=hid h2;have HG2:=hid hg2;clear h2 hg2
       have HB2:=hid (show Below w1.heap.size w1 w2 from (((Below.refl _ w1).alloc (Nat.le_refl _) _).grown HG2.out (by simp) (fun q hq=>by cases hq;exact Nat.le_refl _)))
       have hs1:w.heap.size+1≤w1.heap.size:=by have:=HB1.out.size;simpa using this
       have hs2:w1.heap.size+1≤w2.heap.size:=by have:=HG2.out.size;simpa using this
       have hsz1:=HB1.out.size
       have HBW2:=hid (show Below w.heap.size w w2 from (HBX.out.trans (HB1.out.mono (by simp))).trans (HB2.out.mono (by omega)))
       have H2:=hid (show w2.heap[w.heap.size]? = some (deskBox c (Value.slice pp c.pts.length cp) (Value.slice pd c.done.length cd)) from by rw [HB2.out.block _ (by omega),HB1.out.block _ (by simp)];exact heap_alloc_new w _)
       have H2A:=hid (show (w2.alloc (.cells #[.int .i64 1] 3)).heap[w.heap.size]? = some (deskBox c (Value.slice pp c.pts.length cp) (Value.slice pd c.done.length cd)) from ((World.grownBy_alloc w2 _ none).block w.heap.size (by omega) (by simp)).trans H2.out))
    | ((with_reducible apply wpIL_loadRow (hg:=H2A.out) (hu:=Tryz.underlying120) (hi:=info120 _ _ _ _ _));rfl;rfl)
    | (refine ⟨trivial,?_⟩;gi_at_call 128;refine (callsIn_wide.2 (others_any c _ _ s _ (HPX.out _ (HBW2.out.alloc (by omega) _)) (HDX.out _ (HBW2.out.alloc (by omega) _)))).mono ?_;rintro e w' ⟨rfl,rfl⟩))
  obtain ⟨W0,hW0⟩:∃ W0,W0=((w2.alloc (.cells #[.int .i64 1] 3)).alloc (deskBox c (Value.slice pp c.pts.length cp) (Value.slice pd c.done.length cd))).alloc (.cells #[.int .i64 s] 3):=⟨_,rfl⟩
  have HW0:=hid hW0
  have hsz0:W0.heap.size=w2.heap.size+3:=by rw [hW0];simp
  have HBW0:=hid (show Below w2.heap.size w2 W0 from by rw [hW0];exact (((Below.refl _ w2).alloc (Nat.le_refl _) _).alloc (by simp) _).alloc (by simp;omega) _)
  have HBWW:=hid (show Below w.heap.size w W0 from HBW2.out.trans (HBW0.out.mono (by omega)))
  have b6:Boxed W0 w2.heap.size 3 (.int .i64 1):=by rw [hW0];exact ((Boxed.new w2 3 _).alloc _).alloc _
  have hbD:W0.heap[w2.heap.size+1]? = some (deskBox c (Value.slice pp c.pts.length cp) (Value.slice pd c.done.length cd)):=by
    rw [hW0]
    refine ((World.grownBy_alloc _ _ none).block _ (by simp) (by simp)).trans ?_
    have:=heap_alloc_new (w2.alloc (.cells #[.int .i64 1] 3)) (deskBox c (Value.slice pp c.pts.length cp) (Value.slice pd c.done.length cd))
    simpa using this
  have hbS:W0.heap[w2.heap.size+1+1]? = some (.cells #[.int .i64 s] 3 (0,0)):=by
    rw [hW0]
    have:=heap_alloc_new ((w2.alloc (.cells #[.int .i64 1] 3)).alloc (deskBox c (Value.slice pp c.pts.length cp) (Value.slice pd c.done.length cd))) (.cells #[.int .i64 s] 3)
    simpa using this
  have h5:W0.heap[w1.heap.size]? = some (.cells (formM c s) 136 (0,0)):=(HBW0.out.block _ (by omega)).trans H5.out
  rw [← hW0]
  have HRB:=hid (fun pre=>rankUp_bd c s pre)
  have HOL:=hid (oth_length s c.sk.toNat)
  have hsk2:=hV.sk2
  have hsk1:=hV.sk1
  clear hW0 HW0 H2A H2 HB1 HBX HPX HDX HP HD hd2 hd3 hp2 hp3
  refine wpIn_rangeFunc_ownH rfl (by omega) (gf:=159) (lb := #[.pointer (some ⟨w2.heap.size+1,0,none⟩),.pointer (some ⟨w2.heap.size+1+1,0,none⟩)]) rfl trivial (enters_of Tryz.func159 (by kernel_rfl) rfl)
    (others_stops c hV w _ _ HC.out (3-1) (w2.heap.size+1) (by omega) s W0 HBWW.out hbD hbS) (fun h k=>KpD.trans h k) (KpD.put (by omega) (by omega)) (Below.refl _ _) (fun _=>rfl)
    (fun pre W=>(Boxed W w2.heap.size 3 (.int .i64 (rankUp c s pre))∧W.heap[w1.heap.size]? = some (.cells (formM c s) 136 (0,0)))∧(Below w.heap.size w W∧W0.heap.size≤W.heap.size))
    (fun _ _ _=>False)
    (OwnFrom.and (OwnFrom.and (Own.from (boxed_own _ _ (fun pre=>Value.int .i64 (rankUp c s pre))) _) (Own.from (own_block _ (fun _=>formM c s) _ _) _)) (OwnFrom.and (ownFrom_below (Nat.le_refl _) (by omega)) (ownFrom_size _ _)))
    (fun _ _ _ _ _ hs _ _=>hs)
    ⟨⟨b6,h5⟩,HBWW.out,Nat.le_refl _⟩
    (fun x a' W=>∃ Bx,W.heap[Bx]? = some (.cells (formM c x) 136 (0,0))∧a'={ tmps := #[Value.agg #[Value.int .i64 c.sk,Value.int .i64 c.ra,Value.int .i64 c.be,Value.slice pp c.pts.length cp,Value.slice pd c.done.length cd],.int .i64 s,.pointer (some ⟨w.heap.size,0,none⟩),undef,.int .i64 0,.pointer (some ⟨w1.heap.size,0,none⟩),.pointer (some ⟨w2.heap.size,0,none⟩),undef,.pointer (some ⟨Bx,0,none⟩),undef,Value.agg #[Value.int .i64 c.sk,Value.int .i64 c.ra,Value.int .i64 c.be,Value.slice pp c.pts.length cp,Value.slice pd c.done.length cd],.int .i64 s,.agg (formM c s),Value.agg #[Value.int .i64 c.sk,Value.int .i64 c.ra,Value.int .i64 c.be,Value.slice pp c.pts.length cp,Value.slice pd c.done.length cd],.int .i64 s,.func (.func 159) #[] #[.pointer (some ⟨w2.heap.size+1,0,none⟩),.pointer (some ⟨w2.heap.size+1+1,0,none⟩)],.int .i64 x,.agg (formM c x),undef,undef,undef,undef,undef,undef,undef,undef],defers:=[] })
    (fun x a' _ X Y row hs hg hr=>by obtain ⟨Bx,h2,h3⟩:=hs;exact ⟨Bx,own_block Bx (fun (_:Unit)=>formM c x) _ _ () X Y row h2 hg (fun r e=>(hr r e).2),h3⟩)
    ?assign ?body ?done ?stop
  case assign =>
    rintro l pre x W K ⟨⟨bS1,h51⟩,hB1,hZ⟩ hK
    have hsW:=hB1.size
    have hl6:=bS1.lt
    have hl5:=lt_of_block h51
    refine wpIn_region_lit ?_
    rw [show (#[16,17].zip #[Value.int .i64 x,.agg (formM c x)]).foldl _ _=_ from zip2 16 17 _ _ _]
    simp only [List.setIfInBounds_toArray,List.set_cons_succ,List.set_cons_zero]
    refine wpIL_alloc formZ zero136 rfl ?_
    refine wpIL_storeRow (hg:=heap_alloc_new _ _) (hi:=info136 c x) (hsz:=formM_Z c x) (h1:=formM_one c x) ?_ ?_ ?_
    · rfl
    · rfl
    intro w4 h4 hg4
    have H4:=hid h4;have HG4:=hid hg4;clear h4 hg4
    have hBW:RowKit.Below W.heap.size W w4:=(((Below.refl _ W).alloc (Nat.le_refl _) _).grown HG4.out (by simp) (fun q hq=>by cases hq;exact Nat.le_refl _))
    refine wpListIn_nil ?_
    exact hK _ _ (keepsFrom_of_below _ hBW) (KpD.of_below hBW hB1.size (by omega)) ⟨⟨(hBW.block _ hl6).trans bS1,(hBW.block _ hl5).trans h51⟩,hB1.trans (hBW.mono hsW),Nat.le_trans hZ hBW.size⟩ ⟨W.heap.size,H4.out,rfl⟩
  case body =>
    rintro l pre x a' W hl ⟨r,hr⟩ ⟨⟨bS1,h51⟩,hB1,hZ⟩ ⟨Bx,hBx,rfl⟩ hlt
    have hsW:=hB1.size
    have HBET:=hid (fun W=>better_form c x s W)
    obtain ⟨bet,hbet⟩:∃ bet,bet=betS c x s:=⟨_,rfl⟩
    rw [← hbet] at HBET
    have HBETE:=hid hbet
    obtain ⟨ru,hru⟩:∃ ru,ru=rankUp c s pre:=⟨_,rfl⟩
    obtain ⟨hr1,hr2⟩:=HRB.out pre
    have hol:=HOL.out
    rw [← hru] at hr1 hr2 bS1
    have HRU:=hid hru
    have HX:=hid hBx
    have H51:=hid h51
    clear hbet hru hBx h51
    gi_wp2_with (first
      | ((with_reducible apply wpIL_loadRow (hg:=HX.out) (hu:=Tryz.underlying136) (hi:=info136 c x));rfl;rfl)
      | ((with_reducible apply wpIL_loadRow (hg:=H51.out) (hu:=Tryz.underlying136) (hi:=info136 c s));rfl;rfl)
      | (refine ⟨trivial,?_⟩;gi_at_call 108;refine (CallsIn.inRound l (callsIn_wide.2 (HBET.out _))).mono ?_;rintro e w4 ⟨rfl,hb4⟩;have HB4:=hid hb4;have bS4:Boxed w4 w2.heap.size 3 (.int .i64 ru):=(hb4.block _ bS1.lt).trans bS1;have cS4:=bS4.cell;have fS4:=bS4.frozen;clear hb4))
    · have HS:=rankUp_snoc c s pre x
      rw [← HBETE.out,← HRU.out] at HS
      have hg6:=grown_set w4 w2.heap.size 0 (.int .i64 (ru+1))
      have hl5:=lt_of_block H51.out
      refine ⟨(keepsFrom_of_below _ HB4.out).trans (KeepsFrom.of_grownBy hg6 (fun q hq=>by cases hq;omega)),(KpD.of_below HB4.out hsW (by omega)).trans ⟨(Below.refl _ w4).grown hg6 (by have:=HB4.out.size;omega) (fun q hq=>by cases hq;omega),hg6.block _ (by have:=HB4.out.size;omega) (by simp),hg6.block _ (by have:=HB4.out.size;omega) (by simp;omega)⟩,⟨?_,?_⟩,?_,?_⟩
      · rw [HS,if_pos (by assumption)];exact bS4.set _
      · exact (hg6.block _ (by have:=HB4.out.size;omega) (by simp;omega)).trans ((HB4.out.block _ hl5).trans H51.out)
      · exact (hB1.trans (HB4.out.mono hsW)).grown hg6 (by have:=HB4.out.size;omega) (fun q hq=>by cases hq;omega)
      · exact Nat.le_trans hZ (Nat.le_trans HB4.out.size hg6.size)
    · have HS:=rankUp_snoc c s pre x
      rw [← HBETE.out,← HRU.out] at HS
      have hl5:=lt_of_block H51.out
      refine ⟨keepsFrom_of_below _ HB4.out,KpD.of_below HB4.out hsW (by omega),⟨?_,(HB4.out.block _ hl5).trans H51.out⟩,hB1.trans (HB4.out.mono hsW),Nat.le_trans hZ HB4.out.size⟩
      rw [HS,if_neg (by first | assumption | (intro hh;simp_all))];exact bS4
  case done =>
    rintro D zs W hD rfl ⟨⟨bS1,_⟩,hB1,_⟩ hK
    have cS:=bS1.cell
    gi_wp2
    refine ⟨by simp,.inl ⟨_,_,rfl,run_takeDeferred hK,?_⟩⟩
    exact ⟨_,results_tmp rfl _ _ _,rfl,hB1.trans (belowK_b (w:=w) (Nat.le_refl _) W D _ _ (by omega) hK rfl rfl)⟩
  case stop =>
    rintro D c pre W _ _ h _
    exact h.elim
end KL
end Go.Proofs
end
section
namespace Go.Proofs
open Go.RowKit Go.Lib Go.Sort
namespace KL

abbrev deskV(c:Cup)(vp vd:Value):Value := .agg #[.int .i64 c.sk,.int .i64 c.ra,.int .i64 c.be,vp,vd]
abbrev deskZ:Array Value := #[.int .i64 0,.int .i64 0,.int .i64 0,.slice none 0 0,.slice none 0 0]

theorem heap_old(w:World)(o:Obj)(k:Nat)(h:k<w.heap.size):(w.alloc o).heap[k]? = w.heap[k]? := (World.grownBy_alloc w o none).block k h (by simp)

structure Got (c:Cup) (vp vd:Value) (w w2:World) (A B:Nat):Prop where
  bel:Below w.heap.size w w2
  box:w2.heap[A]? = some (cupBox c vp vd)
  desk:w2.heap[B]? = some (deskBox c vp vd)
  hA:w.heap.size≤A
  hB:A<B

theorem Got.grow{c:Cup}{vp vd:Value}{w w2 w3:World}{A B:Nat}(h:Got c vp vd w w2 A B)(hb:Below w2.heap.size w2 w3):Got c vp vd w w3 A B :=
  ⟨h.bel.trans (hb.mono h.bel.size),(hb.block A (lt_of_block h.box)).trans h.box,(hb.block B (lt_of_block h.desk)).trans h.desk,h.hA,h.hB⟩

end KL
end Go.Proofs
end
section
namespace Go.Proofs
open Go.RowKit Go.Lib Go.Sort
namespace KL

section
variable {ops:Array Oper} {rest:List Oper} {dst:Option Tmp} {ty:TypeId} {pos:String} {af:Array Edge} {a:Act} {w:World} {Q:Exit→Act→World→Prop}
theorem wpL_field0{x:Operand}{c:Cup}{s:Nat}(hx:a.eval x = .agg (formM c s))(h:wpList Tryz.prog ops Q rest (a.put dst (.int .i64 (totalM c s))) w) :
    wpList Tryz.prog ops Q ({ dst:=dst,op := .field 136 x 0,type:=ty,pos:=pos,after:=af,guard:=none }::rest) a w:=by
  refine wpList_plain rfl fun K hK => ?_
  have hp:=pa3 w (totalM c s) (placesM c s)
  rw [show formC (totalM c s) (placesM c s)=formM c s from rfl] at hp
  unfold Oper.wp
  have hI:(Instr.field 136 (.agg (formM c s)) 0).run Tryz.prog w = .ok (.int .i64 (totalM c s)) w:=by
    simp [Instr.field,run_underlying Tryz.underlying136,asAgg]
    exact hp
  simp only [execOp,hx,Sem.run_bind,hI,Result.andThen_ok]
  exact hK _ _ h
end

theorem own_later{w w1:World}{base size n:Nat}{e:TypeId}{v:Value}{xs:List Value}(h:w.ownsRow base e size v n xs)(hb:Below w.heap.size w w1):w1.ownsRow base e size v n xs :=
  h.kept (grown_of_below hb none) (Classical.em _)

def totalsUp(c:Cup)(k:Nat):List Int:=(List.range k).map (totalM c)
def totalsM(c:Cup):List Int:=totalsUp c c.sk.toNat
theorem totalsUp_succ(c:Cup)(k:Nat):totalsUp c (k+1)=totalsUp c k++[totalM c k]:=by simp [totalsUp,List.range_succ]
theorem totalsUp_length(c:Cup)(k:Nat):(totalsUp c k).length=k:=by simp [totalsUp]

set_option maxHeartbeats 2000000 in
set_option maxRecDepth 1000000 in
theorem totals_any(c:Cup)(hV:Valid c)(vp vd:Value)(w:World)(hp:Ints w vp c.pts)(hd:Rows w vd c.done) :
    Calls Tryz.prog 94 #[deskV c vp vd] w (RetOwn (totalsM c) w):=by
  have hB0:=(Below.refl w.heap.size w).alloc (Nat.le_refl _) (deskBox c vp vd)
  have HF:=hid (fun W (hW:Below w.heap.size w W) (s:Nat) (hs:(s:Int)<c.sk)=>form_any c hV (deskV c vp vd) s W ⟨vp,vd,rfl,ints_below hp hW,rows_below hd hW⟩ hs)
  obtain ⟨pd,cd,rfl,hd2,hd3,_⟩:=hd.open
  obtain ⟨pp,cp,rfl,hp2,hp3,_⟩:=hp.open
  unfold maxLen at hd3 hp3
  have HB0:=hid hB0
  have HH:=hid (heap_alloc_new w (deskBox c (.slice pp c.pts.length cp) (.slice pd c.done.length cd)))
  have hsk1:=hV.sk1
  have hsk2:=hV.sk2
  clear hB0 hp hd
  have hBB:=Below.refl (w.heap.size+1) (w.alloc (deskBox c (.slice pp c.pts.length cp) (.slice pd c.done.length cd)))
  go_enter Tryz.func94,Tryz.ntmps94
  go_wp2
  go_loopw [3,8] (fun o i wr=>∃ (k n:Nat) (p:Option Addr) (cap:Nat),(k:Int)≤c.sk∧i = .int .i64 k∧o = .slice p n cap∧n≤k∧k≤n∧wr.ownsRow (w.heap.size+1) 3 1 (.slice p n cap) n ((totalsUp c k).map (Value.int .i64)) ∧
      Below (w.heap.size+1) (w.alloc (deskBox c (.slice pp c.pts.length cp) (.slice pd c.done.length cd))) wr) (fun _ i _=>c.sk.toNat-(intOf i).toNat)
  case atStart=>exact ⟨0,0,none,0,by omega,rfl,rfl,by omega,by omega,World.ownsRow_nil _ _ _ _,hBB⟩
  case round =>
    obtain ⟨k,n,p,cap,hk,rfl,rfl,hn1,hn2,ho,hB⟩:=hrel
    have HO:=hid ho
    have HB:=hid hB
    have hsz:w.heap.size+1≤wr.heap.size:=by have:=hB.size;simpa using this
    have H2:=hid ((hB.block w.heap.size (by omega)).trans HH.out)
    have HBW:=hid (show Below w.heap.size w wr from HB0.out.trans (hB.mono (by omega)))
    obtain ⟨k0,k1,k2,k3,k4⟩:=desk_cells H2.out
    clear ho hB hBB
    by_cases hlt:(k:Int)<c.sk
    · have HN:=hid (totalsUp_succ c k)
      have HFK:=hid (HF.out wr HBW.out k hlt)
      obtain ⟨tt,htt⟩:∃ tt,tt=totalM c k:=⟨_,rfl⟩
      rw [← htt] at HN
      have HTT:=hid htt
      clear htt
      go_wp2_with (first
        | (go_at_call 103;refine HFK.out.mono ?_;clear HFK;rintro e w1 ⟨rfl,hb1⟩;have HB1:=hid hb1
           have HO1:=hid (show w1.ownsRow (w.heap.size+1) 3 1 (.slice p n cap) n ((totalsUp c k).map (Value.int .i64)) from own_later HO.out hb1)
           have hsz1:=hb1.size;clear hb1)
        | ((with_reducible apply wpL_field0);rfl;rw [← HTT.out])
        | (at_builtin;((with_reducible apply wpL_append1 (hown:=HO1.out.alloc _) (ht:=Tryz.underlying22) (hinfo:=info3z) (news:=[.int .i64 tt]));rfl;omega;rfl;rfl;rfl;(intro j u hu;cases j with | zero=>(simp only [List.getElem?_cons_zero,Option.some.injEq] at hu;subst hu;simp) | succ j=>simp at hu);(intro u hu;simp only [List.mem_singleton] at hu;subst hu;rfl);omega;omega;(simp;omega);intro g' n' cap' w' hn' hn'1 hn'2 ho' hg';have HO':=hid ho';have HG':=hid hg';have HN':=hid hn';clear ho' hg' hn')))
      go_roundw
      case rel =>
        have ho2:=HO'.out
        have e1:(totalsUp c k).map (Value.int .i64)++[.int .i64 tt]=(totalsUp c (k+1)).map (Value.int .i64):=by rw [HN.out,List.map_append];rfl
        rw [e1] at ho2
        exact ⟨k+1,n',_,cap',by omega,by go_num,rfl,by omega,by omega,ho2,((HB.out.trans (HB1.out.mono hsz)).alloc (by omega) _).grown HG'.out (by simp;omega) (fun q hq=>(HO.out.lt q hq).1)⟩
      case measure=>simp [intOf];omega
    · have HK:=hid (show k=c.sk.toNat by omega)
      go_wp2
      go_ret
      have ho2:=HO.out
      rw [show totalsUp c k=totalsM c from by rw [HK.out];rfl] at ho2
      have ho3:OwnI wr (w.heap.size+1) (.slice p n cap) (totalsM c):=by
        unfold OwnI
        have:(totalsM c).length=n:=by unfold totalsM;rw [totalsUp_length,← HK.out];omega
        rw [this];exact ho2
      exact RetOwn.of (OwnI.later ho3 (Below.refl _ _) (by omega)) HBW.out
end KL
end Go.Proofs
end
section
namespace Go.Proofs
open Go.RowKit Go.Lib Go.Sort
namespace KL

theorem results_tmp2{fn:Func}{p q:Tmp}(h:fn.results = #[.tmp p,.tmp q])(tmps:Array Value)(w:World):(results fn tmps).run Tryz.prog w = .ok (.tuple #[tmps.getD p undef,tmps.getD q undef]) w:=by
  simp [results,h]


end KL
end Go.Proofs
end
section
namespace Go.Proofs
open Go.RowKit Go.Lib Go.Sort
namespace KL

end KL
end Go.Proofs
end
section
namespace Go.Proofs
open Go.RowKit
namespace KL
section
variable {P:Program} {ops:Array Oper} {md:Region.Mode} {C:World→Prop}

end
end KL
end Go.Proofs
end
section
namespace Go.Proofs
open Go.RowKit Go.Lib Go.Sort
namespace KL

end KL
end Go.Proofs
end
section
namespace Go.Proofs
open Go.RowKit
namespace KL
section
variable {P:Program} {ops:Array Oper} {md:Region.Mode}

structure LaterB (B:Nat) (w:World) where
  W:World
  h:Below B w W

instance (B:Nat) (w:World):Nonempty (LaterB B w):=⟨⟨w,Below.refl _ _⟩⟩

theorem later_cellB{B:Nat}{w:World}{b o:Nat}{u:Value}(h:w.cell? ⟨b,o,none⟩=some u)(hb:b<B)(z:LaterB B w):z.W.cell? ⟨b,o,none⟩=some u :=
  (z.h.cell (p:=⟨b,o,none⟩) hb).trans h

def plainB(o:Oper):Bool:=match o.op with
  | .move _ | .assign _ | .load .. | .fieldAddr .. | .indexAddr .. => true
  | _=>false

theorem value_of{m:Sem Value}{w w':World}{n:Next}(h:((do let v ← m;pure (Next.value v)):Sem Next).run P w = .ok n w'):∃ u,n = .value u:=by
  rw [Sem.run_bind] at h
  cases hm:m.run P w with
  | ok v w1=>rw [hm] at h;simp at h;exact ⟨v,h.1.symm⟩
  | halt _ _=>rw [hm] at h;simp at h

theorem plain_value{o:Oper}{ρ:Operand→Value}{w w':World}{n:Next}(hp:plainB o=true)(h:(execOp ρ o).run P w = .ok n w'):∃ u,n = .value u:=by
  unfold plainB at hp
  cases ho:o.op <;> simp only [ho] at hp <;> (try cases hp) <;> simp only [execOp,ho] at h <;> first | exact value_of h | (simp at h;exact ⟨_,h.1.symm⟩)

theorem upon_then{o:Oper}{a:Act}{K N:Act→World→Prop}{Q:Exit→Act→World→Prop}{r:Result Next}(h:o.upon P a K (Exit.then N Q) r):o.upon P a K Q r:=by
  cases r with
  | ok n w'=>cases n <;> exact h
  | halt e w'=>cases e <;> exact h

def wpSeq(P:Program)(ops:Array Oper)(S:World→Prop)(Q:Exit→Act→World→Prop):List Oper→Act→World→Prop
  | [],a,w=>Q .normal a w
  | o::rest,a,w=>wpList P ops (Exit.then (fun a' w'=>S w'∧wpSeq P ops S Q rest a' w') Q) [o] a w

def chainOK(md:Region.Mode)(ops:Array Oper):List Nat→Array Bool→Bool
  | [],listed=>(Region.ready md ops listed).isEmpty
  | r::rs,listed=>decide (Region.ready md ops listed=[r]) && chainOK md ops rs (listed.setIfInBounds r true)
def takeB(md:Region.Mode)(ops:Array Oper)(rs:List Nat):List Nat→Array Bool→Bool
  | [],listed=>chainOK md ops rs listed
  | t::ts,listed=>(match ops[t]? with | some o=>plainB o && o.guard.isNone | none=>false) && (Region.ready md ops listed).contains t && Region.free md ops listed t && takeB md ops rs ts (listed.setIfInBounds t true)

theorem seq_any{S:World→Prop}{Q:Exit→Act→World→Prop}:∀ (rs:List Nat) (lo:List Oper) (listed:Array Bool) (a:Act) (w:World),lo=rs.filterMap (fun i=>ops[i]?)→rs.all (fun i=>decide (i<ops.size))=true →
    chainOK md ops rs listed=true→wpSeq P ops S Q lo a w→wpAnyH P md ops Q S rs.length listed a w
  | [],lo,listed,a,w,hlo,_,hB,h=>by
    subst hlo
    exact ⟨by simpa [chainOK] using hB,h⟩
  | r::rs,lo,listed,a,w,hlo,hr,hB,h=>by
    simp only [List.all_cons,Bool.and_eq_true,decide_eq_true_eq] at hr
    simp only [chainOK,Bool.and_eq_true,decide_eq_true_eq] at hB
    obtain ⟨o,ho⟩:∃ o,ops[r]? = some o:=⟨_,Array.getElem?_eq_getElem hr.1⟩
    simp only [List.filterMap_cons,ho] at hlo
    subst hlo
    refine ⟨fun h0=>(by rw [hB.1] at h0;cases h0),fun i hi => ?_⟩
    rw [hB.1] at hi
    obtain rfl:i=r:=by simpa using hi
    have hw:wpOp P ops Q i (fun a' w'=>S w'∧wpSeq P ops S Q (rs.filterMap fun i=>ops[i]?) a' w') a w:=by
      unfold wpOp
      simp only [ho]
      have h':if Region.wanted o (yielded ops a.tmps) then o.wp P a w (wpList P ops (Exit.then (fun a' w'=>S w'∧wpSeq P ops S Q (rs.filterMap fun i=>ops[i]?) a' w') Q) []) (Exit.then (fun a' w'=>S w'∧wpSeq P ops S Q (rs.filterMap fun i=>ops[i]?) a' w') Q)∨(o.asks P a w∧LetsOut (Exit.then (fun a' w'=>S w'∧wpSeq P ops S Q (rs.filterMap fun i=>ops[i]?) a' w') Q)) else wpList P ops (Exit.then (fun a' w'=>S w'∧wpSeq P ops S Q (rs.filterMap fun i=>ops[i]?) a' w') Q) [] (a.put o.dst undef) w:=h
      split
      · rename_i hw
        rw [if_pos hw] at h'
        exact h'.imp (fun h1=>upon_then h1) (fun h1=>h1)
      · rename_i hw
        rw [if_neg hw] at h'
        exact h'
    exact wpOp_mono (fun a' w' h'=>⟨h'.1,seq_any rs _ _ a' w' rfl hr.2 hB.2 h'.2⟩) hw
theorem take_any{S:World→Prop}{Q:Exit→Act→World→Prop}(hsel:Region.noSelect ops=true)(hQ:∀ (d:Option Tmp) (v:Value) c a1 w1,Q (.panic c) (a1.put d v) w1→Q (.panic c) a1 w1)(w:World)(hS:S w)(rs:List Nat) :
    ∀ (ts:List Nat) (lt:List Oper) (listed:Array Bool) (a:Act),lt=ts.filterMap (fun i=>ops[i]?)→takeB md ops rs ts listed=true→rs.all (fun i=>decide (i<ops.size))=true →
    wpQuiet P ops S (fun a'=>wpSeq P ops S Q (rs.filterMap fun i=>ops[i]?) a' w) lt a→wpAnyH P md ops Q S (ts.length+rs.length) listed a w
  | [],lt,listed,a,hlt,hB,hr,h=>by
    subst hlt
    simp only [List.length_nil,Nat.zero_add]
    exact seq_any rs _ listed a w rfl hr hB h
  | t::ts,lt,listed,a,hlt,hB,hr,h=>by
    simp only [takeB,Bool.and_eq_true] at hB
    obtain ⟨⟨⟨hp,hrd⟩,hf⟩,hB'⟩:=hB
    cases ho:ops[t]? with
    | none=>rw [ho] at hp;cases hp
    | some o =>
      rw [ho] at hp
      simp only [Bool.and_eq_true,Option.isNone_iff_eq_none] at hp
      simp only [List.filterMap_cons,ho] at hlt
      subst hlt
      have hw:Region.wanted o (yielded ops a.tmps)=true:=by simp [Region.wanted,hp.2]
      have h1:if Region.wanted o (yielded ops a.tmps) then o.quiet P a S (wpQuiet P ops S (fun a'=>wpSeq P ops S Q (rs.filterMap fun i=>ops[i]?) a' w) (ts.filterMap fun i=>ops[i]?)) else wpQuiet P ops S (fun a'=>wpSeq P ops S Q (rs.filterMap fun i=>ops[i]?) a' w) (ts.filterMap fun i=>ops[i]?) (a.put o.dst undef):=h
      rw [if_pos hw] at h1
      obtain ⟨v,hv,hK⟩:=h1
      have e:(t::ts).length+rs.length=(ts.length+rs.length)+1:=by simp;omega
      rw [e]
      refine wpAnyH_take ho hsel hf hrd (fun c a1 w1=>hQ o.dst v c a1 w1) (Or.inl ⟨hw,fun W hW => ?_⟩) hS ?_
      · have h2:=hv W hW
        unfold Oper.quietAt at h2
        cases hr:(execOp a.eval o).run P W with
        | ok n w' =>
          obtain ⟨u,rfl⟩:=plain_value hp.1 hr
          rw [hr] at h2
          obtain ⟨h3,h4⟩:=h2
          rw [h3,h4]
        | halt e w'=>rw [hr] at h2;cases h2
      · exact take_any hsel hQ w hS rs ts _ _ _ rfl hB' hr hK

def takenB(l:List Oper)(ts rs:List Nat):Bool :=
  Region.noSelect l.toArray && takeB .any l.toArray rs ts (Array.replicate l.toArray.size false) && rs.all (fun i=>decide (i<l.toArray.size)) && decide (ts.length+rs.length=l.toArray.size)

theorem wp_region_S{id:Nat}{Q:Exit→Act→World→Prop}{a:Act}{w:World}{l:List Oper}(B:Nat)(ts rs:List Nat)(hm:P.follows .mixedOrders=true)(hB:takenB l ts rs=true)
    (hQ:∀ (d:Option Tmp) (v:Value) c a1 w1,Q (.panic c) (a1.put d v) w1→Q (.panic c) a1 w1)
    (h:∀ w0,Below w.heap.size w w0→w0.heap=w.heap→wpQuiet P l.toArray (fun w'=>∃ z:LaterB B w,w'=z.W)
      (fun a'=>wpSeq P l.toArray (fun w'=>∃ z:LaterB B w,w'=z.W) Q (rs.filterMap fun i=>l[i]?) a' w0) (ts.filterMap fun i=>l[i]?) a):(Code.region id l.toArray true).wp P Q a w:=by
  simp only [takenB,Bool.and_eq_true,decide_eq_true_eq] at hB
  obtain ⟨⟨⟨hsel,ht⟩,hr⟩,hl⟩:=hB
  have h0:=h { w with drawn:=w.drawn+1 } ((Below.refl _ w).drew) rfl
  refine wp_region_held (S:=fun w'=>∃ z:LaterB B w,w'=z.W) hm ?_
  rw [← hl]
  refine take_any hsel hQ _ ⟨⟨_,(Below.refl _ w).drew⟩,rfl⟩ rs ts _ _ a rfl (by rw [hl];exact ht) hr ?_
  simpa using h0
end
end KL
end Go.Proofs
end
section
namespace Go.Proofs
open Go.RowKit Go.Lib Go.Sort
namespace KL
section
variable {P:Program} {ops:Array Oper} {rest:List Oper} {dst:Option Tmp} {ty:TypeId} {pos:String} {af:Array Edge} {a:Act} {w:World} {Q:Exit→Act→World→Prop}

theorem wpL_makeInts{t:TypeId}{x y:Operand}{n:Nat}(base:Nat)(ht:P.underlying t=some (.slice 3))(hinfo:(P.info? 3).map (fun i=>(i.zero,i.size,i.bytes))=some (some (.int .i64 0),1,8))
    (hx:a.eval x = .int .i64 n) (hy:a.eval y = .int .i64 n) (hn:n≤1000) (hb:base≤w.heap.size)
    (h:∀ w',w'.ownsRow base 3 1 (.slice (some ⟨w.heap.size,0,none⟩) n n) n ((List.replicate n (0:Int)).map (Value.int .i64))→w.grownBy w' none→wpList P ops Q rest (a.put dst (.slice (some ⟨w.heap.size,0,none⟩) n n)) w') :
    wpList P ops Q ({ dst:=dst,op := .makeSlice t x y,type:=ty,pos:=pos,after:=af,guard:=none }::rest) a w:=by
  obtain ⟨i,hi,hz,hz1,hz2⟩:=info_parts hinfo
  refine wpList_make_full w rfl x y t rfl base 3 i (.int .i64 0) 1 ht hi hz hz1 .i64 .i64 n n n hx hy rfl rfl (by rw [hz2];omega) (by unfold maxLen;omega) hb (fun w' ho hg=>h w' ?_ hg)
  have e:(madeCells (Value.int .i64 0).cells (n*1)).toList=(List.replicate n (0:Int)).map (Value.int .i64):=by
    rw [Nat.mul_one,List.map_replicate]
    exact toList_madeCells_one _ _
  rw [e] at ho
  exact ho
end

theorem own_store{w:World}{base g n cap:Nat}{L:List Int}(h:w.ownsRow base 3 1 (.slice (some ⟨g,0,none⟩) n cap) n (L.map (Value.int .i64))) :
    (∀ t y,L[t]? = some y→w.cell? ⟨g,t,none⟩=some (.int .i64 y))∧(∀ t,w.frozen? ⟨g,t,none⟩=false):=by
  refine ⟨fun t y ht=>own_cell h ht,fun t => ?_⟩
  rcases h.2 with ⟨h0,_⟩ | ⟨g',cap',cur,h0,_,hg,_⟩
  · cases h0
  · cases h0
    exact frozen_of_row _ _ t _ _ hg

def wonRace(n s:Nat):List Int:=(List.replicate n (0:Int)).set s 1
theorem wonRace_length(n s:Nat):(wonRace n s).length=n:=by simp [wonRace]

set_option maxHeartbeats 1000000 in
theorem wonRace_any(c:Cup)(hV:Valid c)(vp vd:Value)(s:Nat)(hs:(s:Int)<c.sk)(w:World)(b1 b2:Nat)(h1:w.heap[b1]? = some (deskBox c vp vd))(h2:w.cell? ⟨b2,0,none⟩=some (.int .i64 s)) :
    Calls Tryz.prog 161 #[.pointer (some ⟨b1,0,none⟩),.pointer (some ⟨b2,0,none⟩)] w (RetOwn (wonRace c.sk.toNat s) w):=by
  have hsk1:=hV.sk1
  have hsk2:=hV.sk2
  obtain ⟨k0,k1,k2,k3,k4⟩:=desk_cells h1
  obtain ⟨n,hn⟩:∃ n:Nat,c.sk=n:=⟨c.sk.toNat,by omega⟩
  rw [hn] at k0 hs
  have hn2:c.sk.toNat=n:=by omega
  rw [hn2]
  have HL:=hid (wonRace_length n s)
  have HW:=hid (show (List.replicate n (0:Int)).set s 1=wonRace n s from rfl)
  have hb1:=lt_of_block h1
  have hb2:=World.block_lt_of_cell? w _ h2
  have hn12:n≤12:=by omega
  have hsn:s<n:=by omega
  clear k1 k2 k3 k4 hn hn2 hsk1 hsk2 h1
  go_enter Tryz.func161,Tryz.ntmps161
  go_wp2_with ((with_reducible apply wpL_makeInts (n:=n) w.heap.size (ht:=Tryz.underlying22) (hinfo:=info3z));rfl;rfl;omega;omega;intro w1 ho hg;have HO:=hid ho;have HG:=hid hg;have hc2:w1.cell? ⟨b2,0,none⟩=some (.int .i64 s):=((below_of_grown hg).cell (p:=⟨b2,0,none⟩) hb2).trans h2;obtain ⟨hcc,hff⟩:=own_store ho;have hcs:=hcc s 0 (by simp [List.getElem?_replicate,hsn]);have hfs:=hff s;clear ho hg hcc hff)
  go_ret
  obtain ⟨hst,hgr⟩:=World.ownsRow.stored HO.out s (.int .i64 1)
  rw [← List.map_set,HW.out] at hst
  refine RetOwn.of (v := .slice (some ⟨w.heap.size,0,none⟩) n n) (by unfold OwnI;rw [HL.out];exact hst) ((below_of_grown HG.out).grown hgr HG.out.size (fun q hq=>by cases hq;exact Nat.le_refl _))
end KL
end Go.Proofs
end
section
namespace Go.Proofs
open Go.RowKit Go.Lib Go.Sort
namespace KL

theorem info22z:(Tryz.prog.info? 22).map (fun i=>(i.zero,i.size,i.bytes))=some (some (.slice none 0 0),1,24):=by kernel_rfl

def OwnR(w:World)(base:Nat)(v:Value)(L:List (List Int)):Prop :=
  ∃ us:List Value,w.ownsRow base 22 1 v L.length us∧∀ i (h:i<L.length),∃ u,us[i]? = some u∧OwnI w base u L[i]

theorem own_apart{w:World}{b1 b2 n1 n2:Nat}{e1 e2:TypeId}{v1 v2:Value}{x1 x2:List Value}(h1:w.ownsRow b1 e1 1 v1 n1 x1)(h2:w.ownsRow b2 e2 1 v2 n2 x2)(he:e1≠e2):v1.ownBlock=none∨v1.ownBlock≠v2.ownBlock:=by
  rcases h1.2 with ⟨rfl,_⟩ | ⟨g,cap,cur,rfl,_,hg,_⟩
  · left;rfl
  · rcases h2.2 with ⟨rfl,_⟩ | ⟨g',cap',cur',rfl,_,hg',_⟩
    · right;simp [Value.ownBlock]
    · right
      simp only [Value.ownBlock,ne_eq,Option.some.injEq]
      intro e
      subst e
      rw [hg] at hg'
      injection hg' with e
      injection e with _ e
      exact he e

theorem OwnR.rows{w:World}{base:Nat}{v:Value}{L:List (List Int)}(h:OwnR w base v L):Rows w v L:=by
  obtain ⟨us,ho,hu⟩:=h
  rcases ho.2 with ⟨rfl,h0⟩ | ⟨g,cap,cur,rfl,_,hg,hnc,hcm,hcs,htake⟩
  · obtain rfl:L=[]:=List.eq_nil_of_length_eq_zero h0
    exact Row.nil _
  · refine ⟨_,cap,rfl,hnc,hcm,fun i hi => ?_⟩
    obtain ⟨u,hui,hown⟩:=hu i hi
    refine ⟨g,0,u,rfl,?_,hown.ints⟩
    rw [Nat.zero_add,cell_of_row _ _ _ _ _ _ hg]
    rw [← htake,List.getElem?_take] at hui
    split at hui
    · simpa using hui
    · cases hui

theorem OwnR.nil(w:World)(base:Nat):OwnR w base (.slice none 0 0) []:=⟨[],World.ownsRow_nil _ _ _ _,fun i h=>by simp at h⟩

theorem OwnR.later{w w1:World}{base:Nat}{v:Value}{L:List (List Int)}(h:OwnR w base v L)(hb:Below w.heap.size w w1):OwnR w1 base v L:=by
  obtain ⟨us,ho,hu⟩:=h
  exact ⟨us,own_later ho hb,fun i hi=>by
    obtain ⟨u,h1,h2⟩:=hu i hi
    exact ⟨u,h1,own_later h2 hb⟩⟩

theorem OwnR.form{w:World}{base:Nat}{v:Value}{L:List (List Int)}(h:OwnR w base v L):∃ p cap,v = .slice p L.length cap:=by
  obtain ⟨us,ho,_⟩:=h
  rcases ho.2 with ⟨rfl,h0⟩ | ⟨g,cap,cur,rfl,_⟩
  · exact ⟨none,0,by rw [h0]⟩
  · exact ⟨_,cap,rfl⟩

theorem OwnR.snoc{w w':World}{base:Nat}{v v' u:Value}{L:List (List Int)}{R:List Int}{us:List Value}(ho:w.ownsRow base 22 1 v L.length us)(hu:∀ i (h:i<L.length),∃ u,us[i]? = some u∧OwnI w base u L[i])
    (hR:OwnI w base u R) (ho':w'.ownsRow base 22 1 v' (L.length+1) (us++[u])) (hg:w.grownBy w' v.ownBlock):OwnR w' base v' (L++[R]):=by
  have hk:∀ {x:Value} {X:List Int},OwnI w base x X→OwnI w' base x X:=fun h=>World.ownsRow.kept h hg (own_apart h ho (by decide))
  refine ⟨us++[u],by rw [List.length_append];exact ho',fun i hi => ?_⟩
  have hl:=ho.1
  simp only [Nat.mul_one] at hl
  simp only [List.length_append,List.length_cons,List.length_nil] at hi
  by_cases hlt:i<L.length
  · obtain ⟨x,h1,h2⟩:=hu i hlt
    refine ⟨x,by rw [List.getElem?_append_left (by omega)];exact h1,?_⟩
    rw [List.getElem_append_left hlt]
    exact hk h2
  · have:i=L.length:=by omega
    subst this
    refine ⟨u,by rw [← hl];simp,?_⟩
    rw [List.getElem_append_right (Nat.le_refl _)]
    simpa using hk hR

def RetRows(L:List (List Int))(w:World)(e:Ending)(w':World):Prop:=∃ p n cap,e = .returned (.slice p n cap)∧n=L.length∧OwnR w' w.heap.size (.slice p n cap) L∧Below w.heap.size w w'

theorem OwnR.base{w:World}{base base':Nat}{v:Value}{L:List (List Int)}(h:OwnR w base v L)(hB:base'≤base):OwnR w base' v L:=by
  obtain ⟨us,ho,hu⟩:=h
  refine ⟨us,⟨ho.1,?_⟩,fun i hi => ?_⟩
  · rcases ho.2 with h0 | ⟨g,cap,cur,h1,h2,h3⟩
    · exact .inl h0
    · exact .inr ⟨g,cap,cur,h1,by omega,h3⟩
  · obtain ⟨u,h1,h2⟩:=hu i hi
    exact ⟨u,h1,OwnI.later h2 (Below.refl _ _) hB⟩
theorem RetRows.of{L:List (List Int)}{w w':World}{v:Value}(h:OwnR w' w.heap.size v L)(hb:Below w.heap.size w w'):RetRows L w (.returned v) w':=by
  obtain ⟨p,cap,rfl⟩:=h.form
  exact ⟨p,_,cap,rfl,rfl,h,hb⟩

def wonM(c:Cup)(s:Nat):List (List Int):=List.replicate (c.ra.toNat-c.done.length) (wonRace c.sk.toNat s)
theorem replicate_snoc{α:Type}(k:Nat)(x:α):List.replicate k x++[x]=List.replicate (k+1) x:=(List.replicate_succ' ..).symm

set_option maxHeartbeats 2000000 in
set_option maxRecDepth 1000000 in
theorem won_any(c:Cup)(hV:Valid c)(vp vd:Value)(s:Nat)(hs:(s:Int)<c.sk)(w:World)(hp:Ints w vp c.pts)(hd:Rows w vd c.done) :
    Calls Tryz.prog 133 #[deskV c vp vd,.int .i64 s] w (RetRows (wonM c s) w):=by
  obtain ⟨pd,cd,rfl,hd2,hd3,_⟩:=hd.open
  obtain ⟨pp,cp,rfl,hp2,hp3,_⟩:=hp.open
  unfold maxLen at hd3 hp3
  have hra1:=hV.ra1
  have hra2:=hV.ra2
  have hdn:=hV.dn
  obtain ⟨W0,hW0⟩:∃ W0,W0=(w.alloc (deskBox c (.slice pp c.pts.length cp) (.slice pd c.done.length cd))).alloc (.cells #[.int .i64 s] 3):=⟨_,rfl⟩
  have HB0:=hid (show Below w.heap.size w W0 by rw [hW0];exact ((Below.refl _ w).alloc (Nat.le_refl _) _).alloc (by simp) _)
  have HSZ:=hid (show W0.heap.size=w.heap.size+2 by rw [hW0];simp)
  have HD0:=hid (show W0.heap[w.heap.size]? = some (deskBox c (.slice pp c.pts.length cp) (.slice pd c.done.length cd)) by rw [hW0];exact (heap_old _ _ _ (by simp)).trans (heap_alloc_new w _))
  have HS0:=hid (show W0.cell? ⟨w.heap.size+1,0,none⟩=some (.int .i64 s) by rw [hW0];simp)
  have HWR:=hid (fun W hW=>wonRace_any c hV (.slice pp c.pts.length cp) (.slice pd c.done.length cd) s hs W w.heap.size (w.heap.size+1) hW)
  have HWM:=hid (show wonM c s=List.replicate (c.ra.toNat-c.done.length) (wonRace c.sk.toNat s) from rfl)
  have HLR:=hid (wonRace_length c.sk.toNat s)
  obtain ⟨R,hR⟩:∃ R,R=wonRace c.sk.toNat s:=⟨_,rfl⟩
  rw [← hR] at HWR HWM HLR
  obtain ⟨m,hm⟩:∃ m,m=c.ra.toNat-c.done.length:=⟨_,rfl⟩
  rw [← hm] at HWM
  have hm2:c.ra-c.done.length=m:=by omega
  have HM:=hid hm
  clear hp hd hR hm
  obtain ⟨k0,k1,k2,k3,k4⟩:=desk_cells HD0.out
  go_enter Tryz.func133,Tryz.ntmps133
  go_wp2
  rw [← hW0]
  clear k0 k1 k2 k3 k4 hW0
  have hsz0:W0.heap.size=w.heap.size+2:=HSZ.out
  have hBB:=Below.refl W0.heap.size W0
  go_loopw [6,16] (fun o i wr=>∃ (k:Nat),k≤m∧i = .int .i64 k∧OwnR wr W0.heap.size o (List.replicate k R)∧Below W0.heap.size W0 wr) (fun _ i _=>m-(intOf i).toNat)
  case atStart=>exact ⟨0,by omega,rfl,OwnR.nil _ _,hBB⟩
  case round =>
    obtain ⟨k,hk,rfl,ho,hB⟩:=hrel
    obtain ⟨p,cap,rfl⟩:=ho.form
    have hlenr:(List.replicate k R).length=k:=by simp
    have HOR:=hid ho
    obtain ⟨us,ho1,hu1⟩:=ho
    have HO:=hid ho1
    have HU:=hid hu1
    have HB:=hid hB
    have hsz:=hB.size
    have H1:=hid ((hB.block w.heap.size (by omega)).trans HD0.out)
    have H2:=hid ((hB.cell (p:=⟨w.heap.size+1,0,none⟩) (by show w.heap.size+1<_;omega)).trans HS0.out)
    have HCALL:=hid (HWR.out wr H1.out H2.out)
    have hk20:k≤20:=by have:=HM.out;omega
    clear ho1 hu1 hB hBB
    obtain ⟨kl,hkl⟩:∃ kl,kl=(List.replicate k R).length:=⟨_,rfl⟩
    rw [← hkl]
    have HKL:=hid (hkl.trans hlenr)
    rw [← hkl] at HO
    have hkl20:kl≤20:=by omega
    clear hkl hlenr
    by_cases hlt:k<m
    · go_wp2_with (first
        | (go_at_call 161;refine HCALL.out.mono ?_;clear HCALL;rintro e w1 ⟨rp,rn,rcap,rfl,hrn,hro,hb1⟩;have HRN:=hid hrn;have HRO:=hid (OwnI.later hro (Below.refl _ _) hsz);have HB1:=hid hb1;have HO1:=hid (own_later HO.out hb1);have hsz1:=hb1.size;clear hrn hro hb1)
        | (at_builtin;((with_reducible apply wpL_append1 (hown:=HO1.out.alloc _) (ht:=Tryz.underlying23) (hinfo:=info22z) (news:=[.slice rp rn rcap]));rfl;omega;rfl;rfl;rfl;(intro j u hu;cases j with | zero=>(simp only [List.getElem?_cons_zero,Option.some.injEq] at hu;subst hu;simp) | succ j=>simp at hu);(intro u hu;simp only [List.mem_singleton] at hu;subst hu;rfl);omega;omega;(simp;omega);intro g' n' cap' w' hn' hn'1 hn'2 ho' hg';have HO':=hid ho';have HG':=hid hg';have HN':=hid hn';clear ho' hg' hn')))
      go_roundw
      case rel =>
        have ho2:=HO'.out
        have hal:Below w1.heap.size w1 (w1.alloc (.cells #[.slice rp rn rcap] 22)):=(Below.refl _ w1).alloc (Nat.le_refl _) _
        have hkl:=HKL.out
        refine ⟨k+1,by omega,by go_num,?_,((HB.out.trans (HB1.out.mono hsz)).alloc (by omega) _).grown HG'.out (by simp;omega) (fun q hq=>(HO.out.lt q hq).1)⟩
        rw [← replicate_snoc]
        have hl:(List.replicate k R).length=kl:=by rw [List.length_replicate,hkl]
        have e1:n'=(List.replicate k R).length+1:=by omega
        rw [e1] at ho2 ⊢
        refine OwnR.snoc (us:=us) (w:=w1.alloc (.cells #[.slice rp rn rcap] 22)) (v := .slice p kl cap) (u := .slice rp rn rcap) (by rw [hl];exact HO1.out.alloc _) (fun i hi => ?_) ?_ ho2 HG'.out
        · obtain ⟨u,h1,h2⟩:=HU.out i hi
          exact ⟨u,h1,own_later (own_later h2 HB1.out) hal⟩
        · exact own_later HRO.out hal
      case measure=>simp [intOf];omega
    · have HK:=hid (show k=m by omega)
      go_wp2
      go_ret
      have h3:=HOR.out
      rw [HK.out,← HWM.out] at h3
      have e:kl=(wonM c s).length:=by rw [HWM.out,List.length_replicate,← HK.out];exact HKL.out
      rw [e]
      exact RetRows.of (OwnR.base h3 (by omega)) (HB0.out.trans (HB.out.mono (by omega)))
end KL
end Go.Proofs
end
section
namespace Go.Proofs
open Go.RowKit Go.Lib Go.Sort
namespace KL

def Real(v:Value):Prop:=∀ n cap,v = .slice none n cap→cap=0

theorem Rows.values{w:World}{p:Option Addr}{n cap:Nat}{L:List (List Int)}(h:Rows w (.slice p n cap) L):∃ us:List Value,us.length=L.length∧n=L.length ∧
    (∀ j u,us[j]? = some u→∃ b o,p=some ⟨b,o,none⟩∧w.cell? ⟨b,o+j,none⟩=some u)∧(∀ i (hi:i<L.length),∃ u,us[i]? = some u∧Ints w u L[i])∧(∀ u∈us,u.oneCell'=true):=by
  obtain ⟨p',cap',he,h1,h2,h3⟩:=h
  injection he with e1 e2 e3
  subst e1 e2 e3
  have hex:∀ i:Fin L.length,∃ u,(∃ b o,p=some ⟨b,o,none⟩∧w.cell? ⟨b,o+i.val,none⟩=some u)∧Ints w u L[i.val]:=fun i=>by
    obtain ⟨b,o,u,hp,hc,hu⟩:=h3 i.val i.isLt
    exact ⟨u,⟨b,o,hp,hc⟩,hu⟩
  let f:Fin L.length→Value:=fun i=>Classical.choose (hex i)
  have hf:∀ i,(∃ b o,p=some ⟨b,o,none⟩∧w.cell? ⟨b,o+i.val,none⟩=some (f i))∧Ints w (f i) L[i.val]:=fun i=>Classical.choose_spec (hex i)
  refine ⟨List.ofFn f,by simp,rfl,fun j u hu => ?_,fun i hi=>⟨f ⟨i,hi⟩,by simp [List.getElem?_ofFn,hi],(hf ⟨i,hi⟩).2⟩,fun u hu => ?_⟩
  · rw [List.getElem?_ofFn] at hu
    split at hu
    · rename_i hj
      cases hu
      exact (hf ⟨j,hj⟩).1
    · cases hu
  · obtain ⟨i,rfl⟩:=(List.mem_ofFn).1 hu
    obtain ⟨q,qc,e,_⟩:=(hf i).2
    rw [e];rfl

section
variable {P:Program} {ops:Array Oper} {rest:List Oper} {dst:Option Tmp} {ty:TypeId} {pos:String} {af:Array Edge} {a:Act} {w:World} {Q:Exit→Act→World→Prop}

theorem own_take{w:World}{z:Value}{n m base:Nat}{e:TypeId}(hb:base≤w.heap.size)(hn:n+m≤1000) :
    (w.alloc (.cells (madeCells #[z] (n+m)) e)).ownsRow base e 1 (.slice (some ⟨w.heap.size,0,none⟩) n (n+m)) n (List.replicate n z):=by
  refine ⟨by simp,.inr ⟨w.heap.size,n+m,_,rfl,hb,heap_alloc_new w _,by omega,by unfold maxLen;omega,by rw [size_madeCells];omega,?_⟩⟩
  rw [toList_madeCells_one,List.take_replicate]
  congr 1
  omega

theorem wpL_makeNils{t:TypeId}{x y:Operand}{n m:Nat}{C:Int}(base:Nat)(ht:P.underlying t=some (.slice 22))(hinfo:(P.info? 22).map (fun i=>(i.zero,i.size,i.bytes))=some (some (.slice none 0 0),1,24))
    (hx:a.eval x = .int .i64 n) (hy:a.eval y = .int .i64 C) (hC:C=((n+m:Nat):Int)) (hn:n+m≤1000) (hb:base≤w.heap.size)
    (h:∀ w',w'.ownsRow base 22 1 (.slice (some ⟨w.heap.size,0,none⟩) n (n+m)) n (List.replicate n (.slice none 0 0))→w.grownBy w' none→wpList P ops Q rest (a.put dst (.slice (some ⟨w.heap.size,0,none⟩) n (n+m))) w') :
    wpList P ops Q ({ dst:=dst,op := .makeSlice t x y,type:=ty,pos:=pos,after:=af,guard:=none }::rest) a w:=by
  obtain ⟨i,hi,hz,hz1,hz2⟩:=info_parts hinfo
  subst hC
  refine wpList_plain rfl fun K hK => ?_
  have hr:=run_make (P:=P) w t 22 i (.slice none 0 0) ht hi hz .i64 .i64 n ((n+m:Nat):Int) (by omega) (by omega) (by rw [hz2];omega) (by omega)
  rw [hz1,Nat.mul_one,Int.toNat_natCast,Int.toNat_natCast] at hr
  unfold Oper.wp
  simp only [execOp,hx,hy,Sem.run_bind,hr,Result.andThen_ok]
  exact hK _ _ (h _ (own_take hb hn) (World.grownBy_alloc w _ none))

theorem wpL_copyRows{d s:Operand}{base g n cap scap:Nat}{sp:Option Addr}{xs us:List Value}(hu:P.underlying 23=some (.slice 22))(hsz:(P.info? 22).map (·.size)=some 1)
    (hown:w.ownsRow base 22 1 (.slice (some ⟨g,0,none⟩) n cap) n xs) (hd:a.eval d = .slice (some ⟨g,0,none⟩) n cap) (hs:a.eval s = .slice sp n scap) (hl:us.length=n)
    (hsrc:∀ j u,us[j]? = some u→∃ b o,sp=some ⟨b,o,none⟩∧w.cell? ⟨b,o+j,none⟩=some u) (h1:∀ u∈us,u.oneCell'=true)
    (h:∀ w',w'.ownsRow base 22 1 (.slice (some ⟨g,0,none⟩) n cap) n us→w.grownBy w' (some g)→wpList P ops Q rest (a.put dst (goInt n)) w') :
    wpList P ops Q ({ dst:=dst,op := .call { callee := .builtin .copy,args := #[d,s],argTypes := #[23,23] },type:=ty,pos:=pos,after:=af,guard:=none }::rest) a w:=by
  rcases hown.2 with ⟨h0,_⟩ | ⟨g',cap',cur,h0,hb,hg,hnc,hcm,hcs,htake⟩
  · cases h0
  · simp only [Value.slice.injEq,Option.some.injEq,Addr.mk.injEq,and_true,true_and] at h0
    obtain ⟨rfl,rfl⟩:=h0
    rw [Nat.mul_one] at hcs htake
    by_cases hn0:n=0
    · subst hn0
      refine wpList_copy_nothing rfl d s 23 23 rfl 22 hu hsz _ sp 0 cap 0 scap hd hs (by simp) ?_
      obtain rfl:us=[]:=List.eq_nil_of_length_eq_zero hl
      have hx:xs=[]:=List.eq_nil_of_length_eq_zero (by simpa using hown.1)
      subst hx
      exact h w hown (World.grownBy.refl _ _)
    · obtain ⟨b,o,rfl,_⟩:=hsrc 0 us[0] (by rw [List.getElem?_eq_getElem])
      refine wpList_copy_own rfl d s 23 23 rfl 22 hu hsz g 0 n cap ⟨b,o,none⟩ n scap hd hs cur 22 hg us (by simp [hl]) (fun j v hv => ?_) (by omega) h1 ?_
      · obtain ⟨b',o',e,hc⟩:=hsrc j v hv
        cases e
        rw [Addr.add_lit]
        exact hc
      · rw [hl]
        refine h _ ⟨by simpa using hl,.inr ⟨g,cap,_,rfl,hb,setRow_heap w g _ _ 22 _ hg,hnc,hcm,?_,?_⟩⟩ ⟨rfl,rfl,rfl,by simp [World.setRow],fun k _ hk=>setRow_other w g k _ (fun e=>hk (by rw [e]))⟩
        · simp [hl];omega
        · simp [hl]
end
end KL
end Go.Proofs
end
section
namespace Go.Proofs
open Go.RowKit Go.Lib Go.Sort
namespace KL

theorem info22s:(Tryz.prog.info? 22).map (·.size)=some 1:=by kernel_rfl

structure Wth (c:Cup) (vp vd xp xd:Value) (w W:World):Prop where
  bel:Below w.heap.size w W
  desk:W.heap[w.heap.size]? = some (deskBox c vp vd)
  res:W.heap[w.heap.size+1]? = some (.cells deskZ 120 (0,0))
  cup:W.heap[w.heap.size+2]? = some (.cells #[.int .i64 c.sk,.int .i64 c.ra,.int .i64 c.be,xp,xd] 25 (0,0))

theorem Wth.lt{c:Cup}{vp vd xp xd:Value}{w W:World}(h:Wth c vp vd xp xd w W):w.heap.size+3≤W.heap.size:=lt_of_block h.cup
theorem Wth.grow{c:Cup}{vp vd xp xd:Value}{w W W':World}{row:Option Nat}(h:Wth c vp vd xp xd w W)(hg:W.grownBy W' row)(hr:∀ q,row=some q→w.heap.size+3≤q):Wth c vp vd xp xd w W':=by
  have hl:=h.lt
  have hne:∀ k,k<w.heap.size+3→some k≠row:=fun k hk e=>by have:=hr k e.symm;omega
  exact ⟨h.bel.grown hg h.bel.size (fun q hq=>by have:=hr q hq;omega),(hg.block _ (by omega) (hne _ (by omega))).trans h.desk,(hg.block _ (by omega) (hne _ (by omega))).trans h.res,(hg.block _ (by omega) (hne _ (by omega))).trans h.cup⟩
theorem Wth.setp{c:Cup}{vp vd xp xd:Value}{w W:World}(h:Wth c vp vd xp xd w W)(u:Value):Wth c vp vd u xd w (W.setCell ⟨w.heap.size+2,3,none⟩ u):=by
  have hg:=grown_set W (w.heap.size+2) 3 u
  have hl:=h.lt
  exact ⟨h.bel.grown hg h.bel.size (fun q hq=>by cases hq;omega),(hg.block _ (by omega) (by simp)).trans h.desk,(hg.block _ (by omega) (by simp)).trans h.res,heap_setCell_same _ _ _ _ _ _ h.cup⟩
theorem Wth.setd{c:Cup}{vp vd xp xd:Value}{w W:World}(h:Wth c vp vd xp xd w W)(u:Value):Wth c vp vd xp u w (W.setCell ⟨w.heap.size+2,4,none⟩ u):=by
  have hg:=grown_set W (w.heap.size+2) 4 u
  have hl:=h.lt
  exact ⟨h.bel.grown hg h.bel.size (fun q hq=>by cases hq;omega),(hg.block _ (by omega) (by simp)).trans h.desk,(hg.block _ (by omega) (by simp)).trans h.res,heap_setCell_same _ _ _ _ _ _ h.cup⟩
theorem Wth.cells{c:Cup}{vp vd xp xd:Value}{w W:World}(h:Wth c vp vd xp xd w W) :
    (W.cell? ⟨w.heap.size,0,none⟩=some (.int .i64 c.sk)∧W.cell? ⟨w.heap.size,1,none⟩=some (.int .i64 c.ra)∧W.cell? ⟨w.heap.size,2,none⟩=some (.int .i64 c.be)∧W.cell? ⟨w.heap.size,3,none⟩=some vp∧W.cell? ⟨w.heap.size,4,none⟩=some vd) ∧
    (W.cell? ⟨w.heap.size+2,0,none⟩=some (.int .i64 c.sk)∧W.cell? ⟨w.heap.size+2,1,none⟩=some (.int .i64 c.ra)∧W.cell? ⟨w.heap.size+2,2,none⟩=some (.int .i64 c.be)∧W.cell? ⟨w.heap.size+2,3,none⟩=some xp∧W.cell? ⟨w.heap.size+2,4,none⟩=some xd) ∧
    (∀ o,W.frozen? ⟨w.heap.size+2,o,none⟩=false):=by
  refine ⟨desk_cells h.desk,⟨?_,?_,?_,?_,?_⟩,fun o=>frozen_of_row _ _ o _ _ h.cup⟩ <;> rw [cell_of_row _ _ _ _ _ _ h.cup] <;> rfl

theorem own_set{w:World}{base n g b o:Nat}{e:TypeId}{cap:Nat}{xs:List Value}{u:Value}(h:w.ownsRow base e 1 (.slice (some ⟨g,0,none⟩) n cap) n xs)(hb:b<base):(w.setCell ⟨b,o,none⟩ u).ownsRow base e 1 (.slice (some ⟨g,0,none⟩) n cap) n xs :=
  h.kept (grown_set w b o u) (by
    right
    have:=(h.lt g rfl).1
    simp [Value.ownBlock];omega)
theorem ownv_set{w:World}{base n b o:Nat}{e:TypeId}{v:Value}{xs:List Value}{u:Value}(h:w.ownsRow base e 1 v n xs)(hb:b<base):(w.setCell ⟨b,o,none⟩ u).ownsRow base e 1 v n xs :=
  h.kept (grown_set w b o u) (by
    by_cases hv:v.ownBlock=none
    · exact .inl hv
    · right
      intro e
      have:=(h.lt b e).1
      omega)

theorem wth_start(c:Cup)(vp vd:Value)(w:World):Wth c vp vd vp vd w (((w.alloc (deskBox c vp vd)).alloc (.cells deskZ 120)).alloc (.cells #[.int .i64 c.sk,.int .i64 c.ra,.int .i64 c.be,vp,vd] 25)):=by
  refine ⟨(((Below.refl _ w).alloc (Nat.le_refl _) _).alloc (by simp) _).alloc (by simp;omega) _,?_,?_,?_⟩
  · exact (heap_old _ _ _ (by simp;omega)).trans ((heap_old _ _ _ (by simp)).trans (heap_alloc_new w _))
  · refine (heap_old _ _ _ (by simp)).trans ?_
    have:=heap_alloc_new (w.alloc (deskBox c vp vd)) (.cells deskZ 120)
    simpa using this
  · have:=heap_alloc_new ((w.alloc (deskBox c vp vd)).alloc (.cells deskZ 120)) (.cells #[.int .i64 c.sk,.int .i64 c.ra,.int .i64 c.be,vp,vd] 25)
    simpa using this

section
variable {P:Program} {ops:Array Oper} {rest:List Oper} {dst:Option Tmp} {ty:TypeId} {pos:String} {af:Array Edge} {a:Act} {w:World} {Q:Exit→Act→World→Prop}
theorem wpL_appendRows{s x:Operand}{base g n m cap scap:Nat}{sp:Option Addr}{us xs:List Value}(hu:P.underlying 23=some (.slice 22))(hinfo:(P.info? 22).map (fun i=>(i.zero,i.size,i.bytes))=some (some (.slice none 0 0),1,24))
    (hown:w.ownsRow base 22 1 (.slice (some ⟨g,0,none⟩) n cap) n us) (hs:a.eval s = .slice (some ⟨g,0,none⟩) n cap) (hx:a.eval x = .slice sp m scap) (hl:xs.length=m) (hreal:Real (.slice sp m scap)) (hcap:n+m≤cap)
    (hsrc:∀ j u,xs[j]? = some u→∃ b o,sp=some ⟨b,o,none⟩∧w.cell? ⟨b,o+j,none⟩=some u) (h1:∀ u∈xs,u.oneCell'=true)
    (h:∀ w',w'.ownsRow base 22 1 (.slice (some ⟨g,0,none⟩) (n+m) cap) (n+m) (us++xs)→w.grownBy w' (some g)→wpList P ops Q rest (a.put dst (.slice (some ⟨g,0,none⟩) (n+m) cap)) w') :
    wpList P ops Q ({ dst:=dst,op := .call { callee := .builtin .append,args := #[s,x],argTypes := #[23,23] },type:=ty,pos:=pos,after:=af,guard:=none }::rest) a w:=by
  obtain ⟨i,hi,hz,hz1,hz2⟩:=info_parts hinfo
  refine wpList_append_fits_any w rfl s x 23 rfl base 22 i 1 hu hi hz1 g n cap us hs hown sp m scap xs hx (by omega) (fun e=>⟨?_,?_⟩) (fun ad e j u hj => ?_) h1 hcap h
  · cases xs with
    | nil=>exact hl.symm
    | cons y ys=>obtain ⟨b,o,h0,_⟩:=hsrc 0 y rfl;rw [e] at h0;cases h0
  · exact hreal m scap (by rw [e])
  · obtain ⟨b,o,h0,hc⟩:=hsrc j u hj
    rw [e] at h0
    cases h0
    rw [Addr.add_lit]
    exact hc
end

set_option maxHeartbeats 4000000 in
set_option maxRecDepth 1000000 in
theorem with_any(c:Cup)(vp vd vf:Value)(f:List (List Int))(w:World)(hp:Ints w vp c.pts)(hd:Rows w vd c.done)(hf:Rows w vf f)(hreal:Real vf)
    (hpl:c.pts.length≤1000) (hdl:c.done.length+f.length≤1000) (hrl:∀ r∈c.done++f,r.length≤1000) :
    Calls Tryz.prog 115 #[deskV c vp vd,vf] w fun e w'=>∃ xp xd,e = .returned (deskV c xp xd)∧OwnI w' w.heap.size xp c.pts∧OwnR w' w.heap.size xd (c.done++f)∧Below w.heap.size w w':=by
  have HP:=hid (fun W (hW:Below w.heap.size w W)=>clone_own vp c.pts W (ints_below hp hW) hpl)
  obtain ⟨pd,cd,rfl,hd2,hd3,_⟩:=hd.open
  obtain ⟨pp,cp,rfl,hp2,hp3,_⟩:=hp.open
  obtain ⟨pf,cf,rfl,hf2,hf3,_⟩:=hf.open
  unfold maxLen at hd3 hp3 hf3
  obtain ⟨us,hus1,_,hus3,hus4,hus5⟩:=Rows.values hd
  obtain ⟨xs,hxs1,_,hxs3,hxs4,hxs5⟩:=Rows.values hf
  have HU:=hid (And.intro hus1 (And.intro hus3 (And.intro hus4 hus5)))
  have HX:=hid (And.intro hxs1 (And.intro hxs3 (And.intro hxs4 hxs5)))
  obtain ⟨n,hn⟩:∃ n,n=c.done.length:=⟨_,rfl⟩
  obtain ⟨m,hm⟩:∃ m,m=f.length:=⟨_,rfl⟩
  rw [← hn] at hdl hd2
  rw [← hm] at hdl hf2 hreal
  have HN:=hid hn
  have HM:=hid hm
  have HR:=hid hreal
  have HW2:=hid (wth_start c (.slice pp c.pts.length cp) (.slice pd n cd) w)
  rw [← hn,← hm]
  clear hus1 hus3 hus4 hus5 hxs1 hxs3 hxs4 hxs5 hp hd hf hreal hn hm
  have HPX:Hid (∀ W,Below w.heap.size w W→Calls Tryz.prog 150 #[.slice pp c.pts.length cp] W (RetOwn c.pts W)):=HP
  clear HP
  go_enter Tryz.func115,Tryz.ntmps115
  go_wp2_with (first
    | (go_at_call 150;refine (HPX.out _ HW2.out.bel).mono ?_;rintro e w3 ⟨p3,n3,c3,rfl,hn3,ho3,hb3⟩;have HN3:=hid hn3;have HO3:=hid ho3;have HW3:=hid (HW2.out.grow (grown_of_below hb3 none) (fun q hq=>by cases hq));clear hn3 ho3;obtain ⟨⟨k0,k1,k2,k3,k4⟩,⟨j0,j1,j2,j3,j4⟩,jf⟩:=HW3.out.cells;have jf3:=jf 3;have jf4:=jf 4)
    | ((with_reducible apply wpL_makeNils (n:=n) (m:=m) (w.heap.size+3) (ht:=Tryz.underlying23) (hinfo:=info22z));rfl;rfl;(exact (Int.natCast_add n m).symm);exact hdl;(have hlt3:=HW3.out.lt;simp only [World.size_setCell];exact hlt3)
       intro w5 ho5 hg5;rw [World.size_setCell] at ho5;have HO5:=hid ho5;have HW5:=hid ((HW3.out.setp (.slice p3 n3 c3)).grow hg5 (fun q hq=>by cases hq));have HOP:=hid (ownv_set (u := .slice p3 n3 c3) (b:=w.heap.size+2) (o:=3) HO3.out (by have:=HW2.out.lt;omega));have HG5:=hid hg5;clear ho5 hg5 k0 k1 k2 k3 k4 j0 j1 j2 j3 j4 jf jf3 jf4;obtain ⟨⟨k0,k1,k2,k3,k4⟩,⟨j0,j1,j2,j3,j4⟩,jf⟩:=HW5.out.cells;have jf3:=jf 3;have jf4:=jf 4)
    | ((with_reducible apply wpL_copyRows (hu:=Tryz.underlying23) (hsz:=info22s) (hown:=own_set (u := .slice (some ⟨w3.heap.size,0,none⟩) n (n+m)) (b:=w.heap.size+1+1) (o:=4) HO5.out (by omega)) (us:=us) (h1:=HU.out.2.2.2));rfl;rfl;(rw [HN.out];exact HU.out.1)
       (intro j u hu;obtain ⟨b,o,e,hc⟩:=HU.out.2.1 j u hu;exact ⟨b,o,e,((HW5.out.setd _).bel.cell (p:=⟨b,o+j,none⟩) (World.block_lt_of_cell? w _ hc)).trans hc⟩)
       intro w6 ho6 hg6;have HO6:=hid ho6;have HG6:=hid hg6;have HW6:=hid ((HW5.out.setd (.slice (some ⟨w3.heap.size,0,none⟩) n (n+m))).grow hg6 (fun q hq=>by cases hq;exact HW3.out.lt));clear ho6 hg6 k0 k1 k2 k3 k4 j0 j1 j2 j3 j4 jf jf3 jf4;obtain ⟨⟨k0,k1,k2,k3,k4⟩,⟨j0,j1,j2,j3,j4⟩,jf⟩:=HW6.out.cells;have jf3:=jf 3;have jf4:=jf 4)
    | ((with_reducible apply wpL_appendRows (hu:=Tryz.underlying23) (hinfo:=info22z) (hown:=HO6.out) (xs:=xs) (hreal:=HR.out) (h1:=HX.out.2.2.2));rfl;rfl;(rw [HM.out];exact HX.out.1);exact Nat.le_refl _
       (intro j u hu;obtain ⟨b,o,e,hc⟩:=HX.out.2.1 j u hu;exact ⟨b,o,e,(HW6.out.bel.cell (p:=⟨b,o+j,none⟩) (World.block_lt_of_cell? w _ hc)).trans hc⟩)
       intro w7 ho7 hg7;have HO7:=hid ho7;have HG7:=hid hg7;have HW7:=hid (HW6.out.grow hg7 (fun q hq=>by cases hq;exact HW3.out.lt));clear ho7 hg7 k0 k1 k2 k3 k4 j0 j1 j2 j3 j4 jf jf3 jf4;obtain ⟨⟨k0,k1,k2,k3,k4⟩,⟨j0,j1,j2,j3,j4⟩,jf⟩:=HW7.out.cells;have jf3:=jf 3;have jf4:=jf 4))
  clear k0 k1 k2 k3 k4 j0 j1 j2 j3 j4 jf jf3 jf4
  have HP5:=hid (World.ownsRow.kept HOP.out HG5.out (Classical.em _))
  have HP5':=hid (ownv_set (u := .slice (some ⟨w3.heap.size,0,none⟩) n (n+m)) (b:=w.heap.size+1+1) (o:=4) HP5.out (by have:=HW2.out.lt;omega))
  have HP6:=hid (World.ownsRow.kept HP5'.out HG6.out (own_apart HP5'.out (own_set (b:=w.heap.size+1+1) (o:=4) (u := .slice (some ⟨w3.heap.size,0,none⟩) n (n+m)) HO5.out (by omega)) (by decide)))
  have HP7:=hid (World.ownsRow.kept HP6.out HG7.out (own_apart HP6.out HO6.out (by decide)))
  obtain ⟨g,hg⟩:∃ g,g=w3.heap.size:=⟨_,rfl⟩
  obtain ⟨N,hN⟩:∃ N,N=n+m:=⟨_,rfl⟩
  rw [← hg,← hN] at HO7
  have hgl:w.heap.size+3≤g:=by have:=HW3.out.lt;omega
  have HP8:=hid (ownv_set (u := .slice (some ⟨g,0,none⟩) N N) (b:=w.heap.size+1+1) (o:=4) HP7.out (by have:=HW2.out.lt;omega))
  have HO8:=hid (own_set (u := .slice (some ⟨g,0,none⟩) N N) (b:=w.heap.size+1+1) (o:=4) HO7.out (by omega))
  have HW8:=hid (HW7.out.setd (.slice (some ⟨g,0,none⟩) N N))
  have hNi:(n:Int)+m=N:=by omega
  rw [← hg,← hN,hNi]
  have HPB:=hid (show w.heap.size+3≤(((w.alloc (deskBox c (.slice pp c.pts.length cp) (.slice pd n cd))).alloc (.cells deskZ 120)).alloc (.cells #[.int .i64 c.sk,.int .i64 c.ra,.int .i64 c.be,.slice pp c.pts.length cp,.slice pd n cd] 25)).heap.size from HW2.out.lt)
  have hN1000:N≤1000:=by omega
  obtain ⟨W8,hW8⟩:∃ W8,W8=w7.setCell ⟨w.heap.size+1+1,4,none⟩ (.slice (some ⟨g,0,none⟩) N N):=⟨_,rfl⟩
  have HP9:Hid (W8.ownsRow (w.heap.size+3) 3 1 (.slice p3 n3 c3) c.pts.length (c.pts.map (Value.int .i64))):=hid (by
    rw [hW8];exact OwnI.later (l:=c.pts) HP8.out (Below.refl _ _) HPB.out)
  have HO9:Hid (W8.ownsRow (w.heap.size+3) 22 1 (.slice (some ⟨g,0,none⟩) N N) N (us++xs)):=hid (by rw [hW8];exact HO8.out)
  have HW9:Hid (Wth c (.slice pp c.pts.length cp) (.slice pd n cd) (.slice p3 n3 c3) (.slice (some ⟨g,0,none⟩) N N) w W8):=hid (by rw [hW8];exact HW8.out)
  rw [← hW8]
  have HNM:=hid hN
  clear HP5 HP5' HP6 HP7 HP8 HO8 HW8 HOP HO3 HO5 HO6 HO7 HG5 HG6 HG7 HW2 HW3 HW5 HW6 HW7 HPB hW8 hg hN hNi
  have hBB:=Below.refl (w.heap.size+3) W8
  go_loopw [42] (fun i wr=>∃ (k:Nat) (vs:List Value),k≤N∧i = .int .i64 k∧wr.ownsRow (w.heap.size+3) 22 1 (.slice (some ⟨g,0,none⟩) N N) N vs∧wr.ownsRow (w.heap.size+3) 3 1 (.slice p3 n3 c3) c.pts.length (c.pts.map (Value.int .i64)) ∧
      (∀ j,j<k→∃ u,vs[j]? = some u∧OwnI wr (w.heap.size+3) u ((c.done++f).getD j []))∧(∀ j,k≤j→vs[j]? = (us++xs)[j]?)∧Below (w.heap.size+3) W8 wr) (fun i _=>N-(intOf i).toNat)
  case atStart=>exact ⟨0,us++xs,by omega,rfl,HO9.out,HP9.out,fun j hj=>absurd hj (by omega),fun j _=>rfl,hBB⟩
  case round =>
    obtain ⟨k,vs,hk,rfl,ho,hpo,hdone,hraw,hB⟩:=hrel
    have HO:=hid ho
    have HPO:=hid hpo
    have HDN:=hid hdone
    have HRAW:=hid hraw
    have HB:=hid hB
    have hl8:=HW9.out.lt
    have hsz:=hB.size
    have HC5:=hid ((hB.block (w.heap.size+2) (by omega)).trans HW9.out.cup)
    clear ho hpo hdone hraw hB hBB
    by_cases hlt:k<N
    · have hel:∃ u,(us++xs)[k]? = some u∧Ints w u ((c.done++f).getD k []):=by
        have h1:=HU.out.1
        have h2:=HX.out.1
        by_cases hk1:k<c.done.length
        · obtain ⟨u,h3,h4⟩:=HU.out.2.2.1 k hk1
          refine ⟨u,by rw [List.getElem?_append_left (by omega)];exact h3,?_⟩
          rw [List.getD_eq_getElem?_getD,List.getElem?_append_left hk1,List.getElem?_eq_getElem hk1]
          exact h4
        · have hnn:=HN.out
          have hmm:=HM.out
          have hnm:=HNM.out
          obtain ⟨u,h3,h4⟩:=HX.out.2.2.1 (k-c.done.length) (by omega)
          refine ⟨u,by rw [List.getElem?_append_right (by omega),h1];exact h3,?_⟩
          rw [List.getD_eq_getElem?_getD,List.getElem?_append_right (by omega),List.getElem?_eq_getElem (by omega)]
          exact h4
      obtain ⟨u,hu1,hu2⟩:=hel
      have hu1':vs[k]? = some u:=(HRAW.out k (Nat.le_refl _)).trans hu1
      have hbw:Below w.heap.size w wr:=HW9.out.bel.trans (HB.out.mono (by omega))
      have hue:=ints_below hu2 hbw
      have hrl1:((c.done++f).getD k []).length≤1000:=by
        by_cases hkk:k<(c.done++f).length
        · rw [List.getD_eq_getElem?_getD,List.getElem?_eq_getElem hkk]
          exact hrl _ (by simp)
        · rw [List.getD_eq_getElem?_getD,List.getElem?_eq_none (by omega)];simp
      have HCL:=hid (fun W (hW:Below wr.heap.size wr W)=>clone_own u _ W (ints_below hue hW) hrl1)
      have cu:wr.cell? ⟨g,k,none⟩=some u:=by
        rw [World.ownsRow.cellAt HO.out k (by omega)];exact hu1'
      obtain ⟨q,qc,rfl,hq1,hq2,_⟩:=hue.open
      obtain ⟨L,hL⟩:∃ L,L=(c.done++f).getD k []:=⟨_,rfl⟩
      rw [← hL] at HCL hq1 cu hu1'
      have hq3:(L.length:Int)≤1000:=by rw [hL];omega
      have HLE:=hid hL
      unfold maxLen at hq2
      have hki:(k:Int)<N:=by omega
      have d4:wr.cell? ⟨w.heap.size+1+1,4,none⟩=some (.slice (some ⟨g,0,none⟩) N N):=by rw [show w.heap.size+1+1=w.heap.size+2 from rfl,cell_of_row _ _ _ _ _ _ HC5.out];rfl
      have l4:=later_cellB (B:=w.heap.size+3) d4 (by omega)
      clear hu1 hu1' hu2 hue hL hbw d4 hrl1
      go_wp2
      refine wp_region_S (w.heap.size+3) [0,1,2,3] [4,5,6] (by kernel_rfl) (by kernel_rfl) (by intro d v c a1 w1 h;cases d <;> exact h) (fun w0 hb0 he0 => ?_)
      simp only [List.filterMap_cons,List.filterMap_nil,List.getElem?_cons_zero,List.getElem?_cons_succ]
      change wpQuiet _ _ _ (fun a'=>wpSeq _ _ _ _ (_::_::_::[]) a' w0) (_::_::_::_::[]) _
      repeat (go_big_quiet_step ((go_at_call 150;fail)))
      refine wpQuiet_nil ?_
      have HB0:=hid hb0
      change wpList _ _ (Exit.then _ _) (_::[]) _ w0
      go_wp2_with (go_at_call 150;refine (HCL.out _ HB0.out).mono ?_;rintro e w4 ⟨p4,n4,c4,rfl,hn4,ho4,hb4⟩;have HN4:=hid hn4;have HO4:=hid ho4;have HB4:=hid hb4;clear hn4 ho4 hb4)
      have hbw4:Below wr.heap.size wr w4:=HB0.out.trans (HB4.out.mono HB0.out.size)
      have HBW4:=hid hbw4
      refine ⟨⟨⟨w4,hbw4.mono (by omega)⟩,rfl⟩,?_⟩
      change wpList _ _ (Exit.then _ _) (_::[]) _ w4
      have HOW:=hid (own_later HO.out hbw4)
      have HPW:=hid (own_later HPO.out hbw4)
      have cu4:w4.cell? ⟨g,k,none⟩=some (.slice q L.length qc):=(hbw4.cell (p:=⟨g,k,none⟩) (World.block_lt_of_cell? wr _ cu)).trans cu
      have fu4:w4.frozen? ⟨g,k,none⟩=false:=by
        rcases HOW.out.2 with ⟨h0,_⟩ | ⟨g',cap',cur,h0,_,hgg,_⟩
        · cases h0
        · cases h0
          exact frozen_of_row _ _ k _ _ hgg
      have hszw4:=hbw4.size
      clear hbw4 he0 hb0 l4
      go_wp2
      refine ⟨⟨⟨w4,HBW4.out.mono (by omega)⟩,rfl⟩,?_⟩
      change wpList _ _ (Exit.then _ _) (_::[]) _ w4
      go_wp2
      obtain ⟨hst,hgr⟩:=World.ownsRow.stored HOW.out k (.slice p4 n4 c4)
      have hbs:Below (w.heap.size+3) wr (w4.setCell ⟨g,k,none⟩ (.slice p4 n4 c4)):=(HBW4.out.mono (by omega)).grown hgr (by omega) (fun q hq=>by cases hq;omega)
      refine ⟨⟨⟨_,hbs⟩,rfl⟩,?_⟩
      have HST:=hid hst
      have HGR:=hid hgr
      have HBS:=hid hbs
      clear hst hgr hbs cu cu4 fu4
      change (Exit.inBlock _ (Exit.then _ _)) Exit.normal _ _
      go_wp2
      go_roundw
      case rel =>
        have hvl:vs.length=N:=by simpa using HO.out.1
        have hne:=own_apart HPW.out HOW.out (by decide)
        have hkeep:∀ {x:Value} {X:List Int},OwnI wr (w.heap.size+3) x X→OwnI (w4.setCell ⟨g,k,none⟩ (.slice p4 n4 c4)) (w.heap.size+3) x X:=fun h =>
          World.ownsRow.kept (own_later h HBW4.out) HGR.out (own_apart (own_later h HBW4.out) HOW.out (by decide))
        refine ⟨k+1,vs.set k (.slice p4 n4 c4),by omega,by go_num,HST.out,World.ownsRow.kept HPW.out HGR.out hne,fun j hj => ?_,fun j hj => ?_,HB.out.trans HBS.out⟩
        · by_cases hjk:j=k
          · subst hjk
            refine ⟨.slice p4 n4 c4,by simp [hvl,hlt],?_⟩
            rw [← HLE.out]
            have h4:OwnI w4 (w.heap.size+3) (.slice p4 n4 c4) L:=OwnI.later HO4.out (Below.refl _ _) (by have:=HB0.out.size;omega)
            exact World.ownsRow.kept h4 HGR.out (own_apart h4 HOW.out (by decide))
          · obtain ⟨u,h1,h2⟩:=HDN.out j (by omega)
            exact ⟨u,by rw [List.getElem?_set_ne (by omega)];exact h1,hkeep h2⟩
        · rw [List.getElem?_set_ne (by omega)]
          exact HRAW.out j (by omega)
      case measure=>simp [intOf];omega
    · have HKN:=hid (show k=N by omega)
      have HRES:=hid ((HB.out.block (w.heap.size+1) (by omega)).trans HW9.out.res)
      have c50:wr.cell? ⟨w.heap.size+1+1,0,none⟩=some (.int .i64 c.sk):=by rw [show w.heap.size+1+1=w.heap.size+2 from rfl,cell_of_row _ _ _ _ _ _ HC5.out];rfl
      have c51:wr.cell? ⟨w.heap.size+1+1,1,none⟩=some (.int .i64 c.ra):=by rw [show w.heap.size+1+1=w.heap.size+2 from rfl,cell_of_row _ _ _ _ _ _ HC5.out];rfl
      have c52:wr.cell? ⟨w.heap.size+1+1,2,none⟩=some (.int .i64 c.be):=by rw [show w.heap.size+1+1=w.heap.size+2 from rfl,cell_of_row _ _ _ _ _ _ HC5.out];rfl
      have c53:wr.cell? ⟨w.heap.size+1+1,3,none⟩=some (.slice p3 n3 c3):=by rw [show w.heap.size+1+1=w.heap.size+2 from rfl,cell_of_row _ _ _ _ _ _ HC5.out];rfl
      have c54:wr.cell? ⟨w.heap.size+1+1,4,none⟩=some (.slice (some ⟨g,0,none⟩) N N):=by rw [show w.heap.size+1+1=w.heap.size+2 from rfl,cell_of_row _ _ _ _ _ _ HC5.out];rfl
      have HONE:=hid (show (#[.int .i64 c.sk,.int .i64 c.ra,.int .i64 c.be,.slice p3 n3 c3,.slice (some ⟨g,0,none⟩) N N]:Array Value).all (·.oneCell')=true from all_oneCell_toArray (by intro v hv;simp only [List.mem_cons,List.not_mem_nil,or_false] at hv;rcases hv with rfl | rfl | rfl | rfl | rfl <;> rfl))
      have HSZ2:=hid (show (#[.int .i64 c.sk,.int .i64 c.ra,.int .i64 c.be,.slice p3 n3 c3,.slice (some ⟨g,0,none⟩) N N]:Array Value).size=deskZ.size from rfl)
      go_wp2_with ((with_reducible apply wpL_storeRow (hg:=HRES.out) (hi:=info120 _ _ _ _ _) (hsz:=HSZ2.out) (h1:=HONE.out));rfl;rfl;intro w9 h9 hg9;have H9:=hid h9;have HG9:=hid hg9;clear h9 hg9)
      refine bodyPost_ret (results_cell_row rfl _ _ (w.heap.size+1) 120 _ (0,0) _ rfl H9.out Tryz.underlying120 rfl (info120 _ _ _ _ _)) rfl ?_
      have hk9:∀ {x:Value} {X:List Int},OwnI wr (w.heap.size+3) x X→OwnI w9 w.heap.size x X:=fun {x X} h=>by
        have h1:OwnI w9 (w.heap.size+3) x X:=World.ownsRow.kept h HG9.out (by
          by_cases hv:x.ownBlock=none
          · exact .inl hv
          · right
            intro e
            have:=(World.ownsRow.lt h _ e).1
            omega)
        exact OwnI.later h1 (Below.refl _ _) (by omega)
      refine ⟨_,_,rfl,hk9 HPO.out,?_,(HW9.out.bel.trans (HB.out.mono (by omega))).grown HG9.out (by omega) (fun q hq=>by cases hq;omega)⟩
      have hNl:(c.done++f).length=N:=by rw [List.length_append,HNM.out,HN.out,HM.out]
      have ho9:w9.ownsRow w.heap.size 22 1 (.slice (some ⟨g,0,none⟩) N N) N vs:=by
        have h1:=World.ownsRow.kept HO.out HG9.out (by right;simp [Value.ownBlock];omega)
        exact ⟨h1.1,by
          rcases h1.2 with h2 | ⟨g',cap',cur,h2,h3,h4⟩
          · exact .inl h2
          · exact .inr ⟨g',cap',cur,h2,by omega,h4⟩⟩
      refine ⟨vs,by rw [hNl];exact ho9,fun i hi => ?_⟩
      obtain ⟨u,h1,h2⟩:=HDN.out i (by have:=HKN.out;omega)
      refine ⟨u,h1,?_⟩
      have h3:=hk9 h2
      rw [List.getD_eq_getElem?_getD,List.getElem?_eq_getElem hi] at h3
      exact h3
end KL
end Go.Proofs
end
section
namespace Go.Proofs
open Go.RowKit Go.Lib Go.Sort
namespace KL

def withC(c:Cup)(f:List (List Int)):Cup:={ c with done:=c.done++f }

theorem valid_with{c:Cup}{f:List (List Int)}(hV:Valid c)(h0:((c.done.length+f.length:Nat):Int)≤c.ra)(h1:∀ r∈f,(r.length:Int)=c.sk)(h2:∀ r∈f,∀ x∈r,0≤x∧x≤60)(h3:f.any clashR=false):Valid (withC c f):=by
  refine ⟨hV.sk1,hV.sk2,hV.ra1,hV.ra2,hV.be1,hV.be2,hV.pt1,hV.pt2,?_,?_,hV.pts,?_,hV.falls,?_⟩
  · show ((c.done++f).length:Int)≤c.ra
    rw [List.length_append];exact h0
  · intro r hr
    rcases List.mem_append.1 hr with h | h
    · exact hV.len r h
    · exact h1 r h
  · intro r hr
    rcases List.mem_append.1 hr with h | h
    · exact hV.rows r h
    · exact h2 r h
  · show (c.done++f).any clashR=false
    rw [List.any_append,hV.clash,h3];rfl

theorem places_won:∀ n,n<13→∀ s,s<n→(wonRace n s).filter (fun x => !nz x)=[1]:=by decide

theorem wonRace_mem{n s:Nat}{x:Int}(h:x∈wonRace n s):0≤x∧x≤60:=by
  unfold wonRace at h
  rcases List.mem_or_eq_of_mem_set h with h | h
  · rw [List.mem_replicate] at h;omega
  · omega

theorem wonRace_clash{n s:Nat}(hn:n≤12)(hs:s<n):clashR (wonRace n s)=false:=by
  unfold clashR placesOf
  rw [places_won n (by omega) s hs,List.mergeSort_singleton]
  decide

theorem valid_won{c:Cup}(hV:Valid c){s:Nat}(hs:(s:Int)<c.sk):Valid (withC c (wonM c s)):=by
  have h1:=hV.sk1
  have h2:=hV.sk2
  have h3:=hV.dn
  refine valid_with hV ?_ (fun r hr => ?_) (fun r hr x hx => ?_) ?_
  · unfold wonM;rw [List.length_replicate];omega
  · unfold wonM at hr;rw [List.mem_replicate] at hr;rw [hr.2,wonRace_length];omega
  · unfold wonM at hr;rw [List.mem_replicate] at hr;rw [hr.2] at hx;exact wonRace_mem hx
  · rw [List.any_eq_false]
    intro r hr
    unfold wonM at hr;rw [List.mem_replicate] at hr;rw [hr.2,wonRace_clash (by omega) (by omega)];decide
end KL
end Go.Proofs
end
