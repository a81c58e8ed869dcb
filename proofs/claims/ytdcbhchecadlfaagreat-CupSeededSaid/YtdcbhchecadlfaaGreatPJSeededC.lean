/- Parts of the proof of JSeeded: laws of walks, contracts of functions, plain models. No condition. -/
import Derived.Deep.MidRow
import Derived.StillTail
import Derived.ChangeKeysEq
import Derived.Deep.Cut
import Derived.RangeFuncNested
import Derived.RangeFuncLeaves
import Derived.Shelf.Abstract
import Derived.OwnWalkIn
import Derived.TacticsInMore
import Derived.LoopNIn
import Derived.LoopIn
import Derived.OrdersHeld
import Derived.OwnWalk
import Derived.Laws.OwnMore
import Derived.Laws.CopyOwn
import Derived.Test.YtdcbhchecadlfaaGreatPJSeededB
set_option linter.unusedVariables false
set_option linter.unusedSimpArgs false
set_option maxRecDepth 100000
section
namespace Go.Proofs
open Go.RowKit Go.Lib Go.Sort
namespace KL

structure CmpOn {α:Type} (P:Program) (g:FuncId) (lb:Array Value) (enc:α→Value) (cmp:α→α→Int) (S:α→Prop) (w:World) (b:Nat):Prop where
  enters:∀ args W,(callFunc g args).run P W = .ok (.enter g args) W
  gives:∀ W x y,S x→S y→w.grownBy W (some b)→Calls P g (#[enc x,enc y]++lb) W (Ret (.int .i64 (cmp x y)) W)

theorem grown_then_below{w wr W:World}{row:Option Nat}(h:w.grownBy wr row)(hb:Below wr.heap.size wr W):w.grownBy W row :=
  ⟨hb.os.trans h.os,hb.tape.trans h.tape,hb.output.trans h.output,Nat.le_trans h.size hb.size,fun k hk hne=>(hb.block k (Nat.lt_of_lt_of_le hk h.size)).trans (h.block k hk hne)⟩

theorem grown_then{w wr W:World}{row:Option Nat}(h:w.grownBy wr row)(hb:wr.grownBy W row):w.grownBy W row :=
  ⟨hb.os.trans h.os,hb.tape.trans h.tape,hb.output.trans h.output,Nat.le_trans h.size hb.size,fun k hk hne=>(hb.block k (Nat.lt_of_lt_of_le hk h.size) hne).trans (h.block k hk hne)⟩

theorem grown_drew(w:World)(row:Option Nat):w.grownBy w.drew row:=⟨rfl,rfl,rfl,Nat.le_refl _,fun _ _ _=>rfl⟩

theorem isort_mem{α:Type}(lt:α→α→Bool)(l:List α)(y:α):y∈isort lt l↔y∈l:=by
  unfold isort
  have : ∀ (l A:List α),y∈l.foldl (ins lt) A↔y∈A∨y∈l:=by
    intro l
    induction l with
    | nil=>intro A;simp
    | cons x r ih =>
      intro A
      rw [List.foldl_cons,ih]
      have:y∈ins lt A x↔y∈A∨y=x:=by
        unfold ins
        rw [List.mem_append,List.mem_cons]
        constructor
        · rintro (h | h | h)
          · exact Or.inl (List.mem_of_mem_take h)
          · exact Or.inr h
          · exact Or.inl (List.mem_of_mem_drop h)
        · rintro (h | h)
          · rw [← List.take_append_drop (insPos lt x A) A,List.mem_append] at h
            rcases h with h | h
            · exact Or.inl h
            · exact Or.inr (Or.inr h)
          · exact Or.inr (Or.inl h)
      rw [this,List.mem_cons]
      constructor
      · rintro ((h | h) | h) <;> simp [h]
      · rintro (h | h | h) <;> simp [h]
  rw [this];simp

def ltC{α:Type}(cmp:α→α→Int)(x y:α):Bool:=decide (cmp x y<0)

theorem own_cell{w:World}{base e g n cap:Nat}{L:List Int}(h:w.ownsRow base e 1 (.slice (some ⟨g,0,none⟩) n cap) n (L.map (Value.int .i64))){t:Nat}{y:Int}(ht:L[t]? = some y):w.cell? ⟨g,t,none⟩=some (.int .i64 y):=by
  have hl:=h.1
  simp only [List.length_map,Nat.mul_one] at hl
  have htl:t<L.length:=(List.getElem?_eq_some_iff.1 ht).1
  rw [h.cellAt t (by omega),List.getElem?_map,ht]
  rfl

theorem own_swap{w:World}{base e g n cap:Nat}{L:List Int}(h:w.ownsRow base e 1 (.slice (some ⟨g,0,none⟩) n cap) n (L.map (Value.int .i64)))(j:Nat)(y x:Int) :
    (((w.setCell ⟨g,j,none⟩ (.int .i64 y)).setCell ⟨g,j-1,none⟩ (.int .i64 x)).drew).ownsRow base e 1 (.slice (some ⟨g,0,none⟩) n cap) n (((L.set j y).set (j-1) x).map (Value.int .i64)) ∧
    w.grownBy (((w.setCell ⟨g,j,none⟩ (.int .i64 y)).setCell ⟨g,j-1,none⟩ (.int .i64 x)).drew) (some g):=by
  obtain ⟨h1,g1⟩:=h.stored j (.int .i64 y)
  obtain ⟨h2,g2⟩:=h1.stored (j-1) (.int .i64 x)
  refine ⟨?_,grown_then (grown_then g1 g2) (grown_drew _ _)⟩
  rw [List.map_set,List.map_set]
  exact h2.drew

set_option maxHeartbeats 2000000 in
set_option maxRecDepth 1000000 in
theorem insertion_ints(base e gb n cap:Nat)(l:List Int)(g:FuncId)(lb:Array Value)(cmp:Int→Int→Int)(w:World)
    (hv:w.ownsRow base e 1 (.slice (some ⟨gb,0,none⟩) n cap) n (l.map (Value.int .i64))) (hn:n≤1000) (hC:CmpOn Tryz.prog g lb (Value.int .i64) cmp (fun x=>x∈l) w gb) :
    Calls Tryz.prog 189 #[.slice (some ⟨gb,0,none⟩) n cap,.int .i64 0,.int .i64 n,.func (.func g) #[] lb] w fun e1 w'=>e1 = .returned (.tuple #[]) ∧
      w'.ownsRow base e 1 (.slice (some ⟨gb,0,none⟩) n cap) n ((isort (ltC cmp) l).map (Value.int .i64))∧w.grownBy w' (some gb):=by
  have hln:l.length=n:=by have:=hv.1;simpa using this
  have hnc:n≤cap∧cap≤maxLen:=by
    rcases hv.2 with ⟨h,_⟩ | ⟨g',cap',cur,h,hb,hg,h1,h2,_⟩
    · cases h
    · cases h;exact ⟨h1,h2⟩
  obtain ⟨hnc1,hnc2⟩:=hnc
  unfold maxLen at hnc2
  have eg:=hC.enters
  have hle1:l.length≤n:=by omega
  have hle2:n≤l.length:=by omega
  clear hln
  have HC:=hid hC
  clear hC
  go_enter Tryz.func189,Tryz.ntmps189
  go_wp2
  go_loopw [8] (fun i wr=>∃ (k:Nat) ,1≤k∧(k≤n∨k=1)∧i = .int .i64 k∧wr.ownsRow base e 1 (.slice (some ⟨gb,0,none⟩) n cap) n ((isort (ltC cmp) (l.take k)++l.drop k).map (Value.int .i64))∧w.grownBy wr (some gb)) (fun i _=>n-(intOf i).toNat)
  case atStart =>
    refine ⟨1,by omega,by omega,rfl,?_,World.grownBy.refl _ _⟩
    have e1:isort (ltC cmp) (l.take 1)++l.drop 1=l:=by
      cases l with
      | nil=>rfl
      | cons x r=>rfl
    rw [e1]
    exact hv
  case round =>
    obtain ⟨k,hk1,hk2,rfl,ho,hg⟩:=hrel
    have HO:=hid ho
    have HG:=hid hg
    clear ho hg hv
    by_cases hlt:k<n
    · have hAl:(isort (ltC cmp) (l.take k)).length=k:=by rw [isort_length];simp;omega
      have hx:l[k]? = some l[k]:=List.getElem?_eq_getElem (by omega)
      have hxm:l[k]∈l:=by simp
      have hAm:∀ y∈isort (ltC cmp) (l.take k),y∈l:=fun y hy=>List.mem_of_mem_take ((isort_mem _ _ _).1 hy)
      have hsn:=isort_snoc (ltC cmp) l k (by omega)
      have hdr:l.drop k=l[k]::l.drop (k+1):=List.drop_eq_getElem_cons (by omega)
      have ho:=HO.out
      rw [hdr,← mv_end,hAl] at ho
      clear HO
      obtain ⟨A,hA⟩:∃ A,A=isort (ltC cmp) (l.take k):=⟨_,rfl⟩
      obtain ⟨x,hxe⟩:∃ x,x=l[k]:=⟨_,rfl⟩
      obtain ⟨R,hR⟩:∃ R,R=l.drop (k+1):=⟨_,rfl⟩
      rw [← hA] at hAl hAm hsn ho
      rw [← hxe] at hx hxm hsn ho
      rw [← hR] at ho
      have HRR:=hid hR
      clear hA hxe hR hdr
      have HSN:=hid hsn
      have HAM:=hid hAm
      have HXM:=hid hxm
      have hA1:A.length≤k:=by omega
      have hA2:k≤A.length:=by omega
      clear hsn hAm hxm hx hAl
      obtain ⟨wo,rfl⟩:∃ wo:World,wo=wr:=⟨_,rfl⟩
      go_wp2
      go_loopw [9] (fun i wr=>∃ (j:Nat),j≤k∧i = .int .i64 j∧wr.ownsRow base e 1 (.slice (some ⟨gb,0,none⟩) n cap) n ((mv A x j R).map (Value.int .i64))∧w.grownBy wr (some gb) ∧
        ∀ t (_:t<A.length),j≤t→ltC cmp x A[t]=true) (fun i _=>(intOf i).toNat)
      case atStart=>exact ⟨k,Nat.le_refl _,rfl,ho,HG.out,fun t h1 h2=>by omega⟩
      case round =>
        clear HG ho
        obtain ⟨j,hj,rfl,ho,hg,hall⟩:=hrel
        have HO:=hid ho
        have HG:=hid hg
        have HALL:=hid hall
        clear ho hg hall
        by_cases h0:0<j
        · have hyy:A[j-1]? = some A[j-1]:=List.getElem?_eq_getElem (by omega)
          have hym:A[j-1]∈A:=by simp
          obtain ⟨y,hye⟩:∃ y,y=A[j-1]:=⟨_,rfl⟩
          rw [← hye] at hyy hym
          have HYE:=hid hye
          clear hye
          have c1:=own_cell HO.out (t:=j) (y:=x) (by rw [mv_get _ _ _ _ (by omega),if_neg (by omega),if_pos rfl])
          have c2:=own_cell HO.out (t:=j-1) (y:=y) (by rw [mv_get _ _ _ _ (by omega),if_pos (by omega),hyy])
          have f1:=HO.out.frozenAt j
          have f2:=HO.out.frozenAt (j-1)
          have d1:=later_cell c1
          have d2:=later_cell c2
          have hlt0:=World.block_lt_of_cell? _ _ c1
          have HCM:=hid (fun (z:Later wr)=>HC.out.gives z.W x y HXM.out (HAM.out y hym) (grown_then_below HG.out z.h))
          have hjn:(j:Int)<n:=by omega
          have hd:decide ((0:Int)<j)=true:=by simpa using h0
          have HY:=hid hyy
          clear hyy hym
          go_wp2
          refine wp_region_qL (by kernel_rfl) (by kernel_rfl) ?_
          repeat (go_big_quiet_step (exact Later.call _ (HCM.out _)))
          refine wpQuiet_nil (later_all fun w2 hb2 => ?_)
          have e1:=(bcell hb2).1 gb j hlt0
          have e2:=(bcell hb2).1 gb (j-1) hlt0
          have e3:=(bcell hb2).2 gb j hlt0
          have e4:=(bcell hb2).2 gb (j-1) hlt0
          have k1:=e1.trans c1
          have k2:=e2.trans c2
          have k3:=e3.trans f1
          have k4:=e4.trans f2
          have HO2:=hid (World.ownsRow.kept HO.out (grown_of_below hb2 none) (by simp [Value.ownBlock]))
          have HG2:=hid (grown_then_below HG.out hb2)
          clear e1 e2 e3 e4 d1 d2 c1 c2 f1 f2 hb2 HO HG
          by_cases hneg:cmp x y<0
          · go_wp2
            go_region
            all_goals
              go_wp2
              go_roundw
              case rel =>
                obtain ⟨ho',hg'⟩:=own_swap HO2.out j y x
                rw [mv_swap A x j R (by omega) h0 y HY.out] at ho'
                refine ⟨j-1,by omega,congrArg (Value.int .i64) (by omega),ho',grown_then HG2.out hg',fun t h1 h2 => ?_⟩
                by_cases ht:t=j-1
                · subst ht
                  rw [← HYE.out]
                  simp [ltC,hneg]
                · exact HALL.out t h1 (by omega)
              case measure=>simp [intOf];omega
          · go_wp2
            go_roundw
            case rel =>
              have hp:insPos (ltC cmp) x A=j:=insPos_eq _ _ _ _ (by omega) HALL.out (Or.inr ⟨y,HY.out,by simp [ltC,hneg]⟩)
              refine ⟨k+1,by omega,by omega,by go_num,?_,HG2.out⟩
              rw [HSN.out,← HRR.out,← mv_ins,hp]
              exact HO2.out
            case measure=>simp [intOf];omega
        · have hj0:j=0:=by omega
          have hd:decide ((0:Int)<j)=false:=by simpa using h0
          have HJ:=hid hj0
          clear hj0
          go_wp2
          refine wp_region_qL (by kernel_rfl) (by kernel_rfl) ?_
          repeat (go_big_quiet_step (fail))
          refine wpQuiet_nil (later_all fun w2 hb2 => ?_)
          have HO2:=hid (World.ownsRow.kept HO.out (grown_of_below hb2 none) (by simp [Value.ownBlock]))
          have HG2:=hid (grown_then_below HG.out hb2)
          clear hb2 HO HG
          go_wp2
          go_roundw
          case rel =>
            have hp:insPos (ltC cmp) x A=j:=insPos_eq _ _ _ _ (by omega) HALL.out (Or.inl HJ.out)
            refine ⟨k+1,by omega,by omega,by go_num,?_,HG2.out⟩
            rw [HSN.out,← HRR.out,← mv_ins,hp]
            exact HO2.out
          case measure=>simp [intOf];omega
    · go_wp2
      go_end0
      have hk:isort (ltC cmp) (l.take k)++l.drop k=isort (ltC cmp) l:=by
        rw [List.take_of_length_le (by omega),List.drop_of_length_le (by omega),List.append_nil]
      refine ⟨rfl,?_,HG.out⟩
      rw [← hk]
      exact HO.out
end KL
end Go.Proofs
end
section
namespace Go.Proofs
open Go.RowKit Go.Lib Go.Sort
namespace KL

set_option maxHeartbeats 400000 in
theorem insertion_triv_ints(v f:Value)(a b:Int)(w:World)(ha:0≤a)(ha2:a≤1000)(h:b≤a+1) :
    Calls Tryz.prog 189 #[v,.int .i64 a,.int .i64 b,f] w fun e1 w'=>e1 = .returned (.tuple #[])∧w=w':=by
  go_enter Tryz.func189,Tryz.ntmps189
  go_wp2
  go_loop [8] (fun i=>i = .int .i64 (a+1)) (fun _=>0)
  case atStart=>rfl
  case round =>
    obtain rfl:=hrel
    go_wp2
    go_end0
    exact ⟨rfl,rfl⟩

set_option maxHeartbeats 1000000 in
set_option maxRecDepth 1000000 in
theorem stable_ints(base e:Nat)(v:Value)(n:Nat)(l:List Int)(g:FuncId)(lb:Array Value)(cmp:Int→Int→Int)(w:World)
    (hv:w.ownsRow base e 1 v n (l.map (Value.int .i64))) (hn:n≤20) (hC:∀ b,v.ownBlock=some b→CmpOn Tryz.prog g lb (Value.int .i64) cmp (fun x=>x∈l) w b) :
    Calls Tryz.prog 201 #[v,.int .i64 n,.func (.func g) #[] lb] w fun e1 w'=>e1 = .returned (.tuple #[]) ∧
      w'.ownsRow base e 1 v n ((isort (ltC cmp) l).map (Value.int .i64))∧w.grownBy w' v.ownBlock:=by
  rcases hv.2 with ⟨rfl,rfl⟩ | ⟨gb,cap,cur,rfl,hb,hg,hnc,hcm,hs,ht⟩
  · have h0:l=[]:=by have:=hv.1;simpa using this
    subst h0
    clear hC
    go_enter Tryz.func201,Tryz.ntmps201
    go_wp2
    go_loop [7,8] (fun b c=>b = .int .i64 0∧c = .int .i64 20) (fun _ _=>0)
    case atStart=>exact ⟨rfl,rfl⟩
    case round =>
      obtain ⟨rfl,rfl⟩:=hrel
      go_wp2_with (go_at_call 189;refine (insertion_triv_ints _ _ _ _ _ (by omega) (by omega) (by omega)).mono ?_;rintro e w' ⟨rfl,rfl⟩)
      go_loop [6] (fun a=>a = .int .i64 20) (fun _=>0)
      case atStart=>rfl
      case round =>
        obtain rfl:=hrel
        go_wp2
        go_end0
        exact ⟨rfl,hv,World.grownBy.refl _ _⟩
  · have HI:=hid (insertion_ints base e gb n cap l g lb cmp w hv (by omega) (hC gb rfl))
    have HV:=hid hv
    clear hv hC hs ht hg
    have hg1:(20:Int)≤n→n=20:=fun h=>by omega
    by_cases h20:n=20
    · subst h20
      go_enter Tryz.func201,Tryz.ntmps201
      go_wp2
      go_loopw [7,8] (fun b c wr=>((b = .int .i64 0∧c = .int .i64 20∧wr=w)∨(b = .int .i64 20∧c = .int .i64 40∧wr.ownsRow base e 1 (.slice (some ⟨gb,0,none⟩) 20 cap) 20 ((isort (ltC cmp) l).map (Value.int .i64))∧w.grownBy wr (some gb)))) (fun _ c _=>(60-intOf c).toNat)
      case atStart=>exact Or.inl ⟨rfl,rfl,rfl⟩
      case round =>
        obtain (⟨rfl,rfl,rfl⟩ | ⟨rfl,rfl,ho,hg⟩):=hrel
        · go_wp2_with (go_at_call 189;refine HI.out.mono ?_;rintro e w1 ⟨rfl,ho,hg⟩;have HO:=hid ho;have HG:=hid hg;clear ho hg)
          go_roundw
          case rel=>exact Or.inr ⟨rfl,rfl,HO.out,HG.out⟩
          case measure=>simp [intOf]
        · have HO:=hid ho
          have HG:=hid hg
          clear ho hg
          go_wp2_with (go_at_call 189;refine (insertion_triv_ints _ _ _ _ _ (by omega) (by omega) (by omega)).mono ?_;rintro e w' ⟨rfl,rfl⟩)
          go_loop [6] (fun a=>a = .int .i64 20) (fun _=>0)
          case atStart=>rfl
          case round =>
            obtain rfl:=hrel
            go_wp2
            go_end0
            exact ⟨rfl,HO.out,HG.out⟩
    · have hlt:n<20:=by omega
      clear h20 hg1
      go_enter Tryz.func201,Tryz.ntmps201
      go_wp2
      go_loop [7,8] (fun b c=>b = .int .i64 0∧c = .int .i64 20) (fun _ _=>0)
      case atStart=>exact ⟨rfl,rfl⟩
      case round =>
        obtain ⟨rfl,rfl⟩:=hrel
        go_wp2_with (go_at_call 189;refine HI.out.mono ?_;rintro e w1 ⟨rfl,ho,hg⟩;have HO:=hid ho;have HG:=hid hg;clear ho hg)
        go_loop [6] (fun a=>a = .int .i64 20) (fun _=>0)
        case atStart=>rfl
        case round =>
          obtain rfl:=hrel
          go_wp2
          go_end0
          exact ⟨rfl,HO.out,HG.out⟩

theorem own_form{w:World}{base e k:Nat}{v:Value}{n:Nat}{xs:List Value}(h:w.ownsRow base e k v n xs):∃ p cap,v = .slice p n cap:=by
  rcases h.2 with ⟨rfl,rfl⟩ | ⟨g,cap,cur,rfl,_⟩
  · exact ⟨none,0,rfl⟩
  · exact ⟨_,_,rfl⟩

set_option maxHeartbeats 400000 in
theorem sortStable_ints(base e:Nat)(v:Value)(n:Nat)(l:List Int)(g:FuncId)(lb:Array Value)(cmp:Int→Int→Int)(w:World)
    (hv:w.ownsRow base e 1 v n (l.map (Value.int .i64))) (hn:n≤20) (hC:∀ b,v.ownBlock=some b→CmpOn Tryz.prog g lb (Value.int .i64) cmp (fun x=>x∈l) w b) :
    Calls Tryz.prog 164 #[v,.func (.func g) #[] lb] w fun e1 w'=>e1 = .returned (.tuple #[]) ∧
      w'.ownsRow base e 1 v n ((isort (ltC cmp) l).map (Value.int .i64))∧w.grownBy w' v.ownBlock:=by
  have HI:=hid (stable_ints base e v n l g lb cmp w hv hn hC)
  obtain ⟨p,cap,rfl⟩:=own_form hv
  clear hv hC
  go_enter Tryz.func164,Tryz.ntmps164
  go_wp2_with (go_at_call 201;refine HI.out.mono ?_;rintro e w1 ⟨rfl,ho,hg⟩;have HO:=hid ho;have HG:=hid hg;clear ho hg)
  go_end0
  exact ⟨rfl,HO.out,HG.out⟩
end KL
end Go.Proofs
end
section
namespace Go.Proofs
open Go.RowKit
namespace KL
section
variable {P:Program} {ops:Array Oper} {rest:List Oper} {dst:Option Tmp} {ty:TypeId} {pos:String} {af:Array Edge} {a:Act} {w:World} {Q:Exit→Act→World→Prop}

theorem wpL_append1{s x:Operand}{t e:TypeId}{base k bytes:Nat}{z v:Value}{n b:Nat}{xs news:List Value}(hown:w.ownsRow base e k v n xs)
    (ht:P.underlying t=some (.slice e)) (hinfo:(P.info? e).map (fun i=>(i.zero,i.size,i.bytes))=some (some z,k,bytes)) (hzs:z.cells.size=k) (hk:0<k)
    (hs:a.eval s=v) (hx:a.eval x = .slice (some ⟨b,0,none⟩) 1 1) (hl:news.length=k) (hnews:∀ j u,news[j]? = some u→w.cell? ⟨b,j,none⟩=some u) (h1:∀ u∈news,u.oneCell'=true)
    (hn:n≤100000) (hby:bytes≤100000) (hbase:base≤w.heap.size)
    (h:∀ g' n' cap' w',n'=n+1→n'≤n+1→n+1≤n'→w'.ownsRow base e k (.slice (some ⟨g',0,none⟩) n' cap') n' (xs++news)→w.grownBy w' v.ownBlock→wpList P ops Q rest (a.put dst (.slice (some ⟨g',0,none⟩) n' cap')) w') :
    wpList P ops Q ({ dst:=dst,op := .call { callee := .builtin .append,args := #[s,x],argTypes := #[t,t] },type:=ty,pos:=pos,after:=af,guard:=none }::rest) a w:=by
  obtain ⟨i,hi,hz,hz1,hz2⟩:=info_parts hinfo
  refine wpList_append_own w rfl s x t rfl base e i z k bytes ht hi hz hz1 hz2 hzs hk v n xs hs hown ⟨b,0,none⟩ 1 1 news hx (by omega) (fun j u hu => ?_) h1 (by unfold maxLen;omega) ?_ hbase (fun v' w' ho hg _ => ?_)
  · rw [Addr.add_lit,Nat.zero_add];exact hnews j u hu
  · have:(n+1)*bytes≤100001*100000:=Nat.mul_le_mul (by omega) hby
    omega
  · obtain ⟨g',cap',rfl⟩:∃ g' cap',v' = .slice (some ⟨g',0,none⟩) (n+1) cap':=by
      rcases ho.2 with ⟨_,h0⟩ | ⟨g,cap,cur,hv,_⟩
      · omega
      · exact ⟨g,cap,hv⟩
    exact h g' (n+1) cap' w' rfl (Nat.le_refl _) (Nat.le_refl _) ho hg

theorem ownsRow_front{base e k:Nat}{p:Option Addr}{n cap j:Nat}{xs:List Value}(h:w.ownsRow base e k (.slice p n cap) n xs)(hj:j≤n) :
    w.ownsRow base e k (Go.sliced p 0 j cap k) j (xs.take (j*k))∧(∃ p' cap',Go.sliced p 0 j cap k = .slice p' j cap')∧(Go.sliced p 0 j cap k).ownBlock=(Value.slice p n cap).ownBlock:=by
  have hl:=h.1
  have hjk:j*k≤n*k:=Nat.mul_le_mul_right _ hj
  rcases h.2 with ⟨h',hn⟩ | ⟨g,cap',cur,h',hb,hg,h1,h2,h3,ht⟩
  · injection h' with e1 e2 e3
    subst e1 e3
    have:j=0:=by omega
    subst this
    refine ⟨⟨by simp,.inl ⟨by simp [Go.sliced],rfl⟩⟩,⟨none,0,by simp [Go.sliced]⟩,by simp [Go.sliced,Value.ownBlock]⟩
  · injection h' with e1 e2 e3
    subst e1 e3
    have hv:Go.sliced (some ⟨g,0,none⟩) 0 j cap k = .slice (some ⟨g,0,none⟩) j cap:=by
      unfold Go.sliced
      simp [Addr.add]
    rw [hv]
    refine ⟨⟨by rw [List.length_take];omega,.inr ⟨g,cap,cur,rfl,hb,hg,by omega,h2,h3,?_⟩⟩,⟨_,_,rfl⟩,rfl⟩
    rw [← ht,List.take_take,Nat.min_eq_left hjk]

theorem wpL_front{s hi:Operand}{t e:TypeId}{base k:Nat}{p:Option Addr}{n cap:Nat}{xs:List Value}{j:Int}(hown:w.ownsRow base e k (.slice p n cap) n xs)
    (hu:P.underlying t=some (.slice e)) (hsz:(P.info? e).map (fun i=>i.size)=some k)
    (hs:a.eval s = .slice p n cap) (hj1:a.eval hi = .int .i64 j) (h1:0≤j) (h2:j≤n)
    (h:∀ p' j' cap',j'=j.toNat→(j':Int)=j→w.ownsRow base e k (.slice p' j' cap') j' (xs.take (j'*k))→(Value.slice p' j' cap').ownBlock=(Value.slice p n cap).ownBlock→wpList P ops Q rest (a.put dst (.slice p' j' cap')) w) :
    wpList P ops Q ({ dst:=dst,op := .slice t s none (some hi) none,type:=ty,pos:=pos,after:=af,guard:=none }::rest) a w:=by
  refine wpList_plain rfl fun K hK => ?_
  obtain ⟨ti,hti,hsz⟩:=Option.map_eq_some_iff.1 hsz
  have he:P.elem t=e:=by simp [Program.elem,hu]
  have hnc:n≤cap:=by
    rcases hown.2 with ⟨h',hn⟩ | ⟨g,cap',cur,h',hb,hg,h1,h2,h3,ht⟩
    · cases h';omega
    · cases h';exact h1
  have hr:=run_slice_h (P:=P) w t p n cap (by rw [he];exact hu) .i64 j h1 (by omega)
  rw [he] at hr
  have hr2:(Instr.sliceAt t (.slice p n cap) none (some (.int .i64 j)) none).run P w = .ok (Go.sliced p 0 j.toNat cap k) w:=by
    rw [run_sliceAt_slice (P:=P) w t _ _ _ _ (by rw [he];exact hu),hr]
    simp [sizeOf,typeInfo,hti,hsz,Result.andThen]
  obtain ⟨ho,⟨p',cap',hf⟩,hb⟩:=ownsRow_front (j:=j.toNat) hown (by omega)
  rw [hf] at ho hb hr2
  unfold Oper.wp
  simp only [execOp,hs,hj1,Option.map_some,Option.map_none,Sem.run_bind,hr2]
  exact hK _ _ (h p' j.toNat cap' rfl (by omega) ho hb)
end
end KL
end Go.Proofs
end
section
namespace Go.Proofs
open Go.RowKit Go.Lib Go.Sort
namespace KL

theorem info3z:(Tryz.prog.info? 3).map (fun i=>(i.zero,i.size,i.bytes))=some (some (.int .i64 0),1,8):=by kernel_rfl

def scoreAt(c:Cup)(i s:Nat):Int:=scoreM c.pts (c.done.getD i []) s

def cntCmp(c:Cup)(s:Nat)(a b:Int):Int:=cmpI (scoreAt c b.toNat s) (scoreAt c a.toNat s)

def idx(m:Nat):List Int:=(List.range m).map (fun i=>((i:Nat):Int))
theorem idx_length(m:Nat):(idx m).length=m:=by simp [idx]
theorem idx_succ(m:Nat):idx (m+1)=idx m++[(m:Int)]:=by simp [idx,List.range_succ]
theorem idx_mem{m:Nat}{x:Int}(h:x∈idx m):∃ k:Nat,x=k∧k<m:=by
  unfold idx at h
  rw [List.mem_map] at h
  obtain ⟨k,hk,rfl⟩:=h
  exact ⟨k,rfl,List.mem_range.1 hk⟩

def countedL(c:Cup)(s:Nat):List Int:=((isort (ltC (cntCmp c s)) (idx c.done.length)).take (min c.done.length c.be.toNat)).mergeSort leB

theorem points_at{c:Cup}(hV:Valid c){vp vd:Value}{w:World}(hp:Ints w vp c.pts)(hd:Rows w vd c.done){s:Nat}(hs:(s:Int)<c.sk){i:Nat}(hi:i<c.done.length){vr:Value}(hr:Ints w vr c.done[i]) :
    Calls Tryz.prog 105 #[.agg #[.int .i64 c.sk,.int .i64 c.ra,.int .i64 c.be,vp,vd],vr,.int .i64 s] w (Ret (.int .i64 (scoreAt c i s)) w):=by
  have hm:c.done[i]∈c.done:=by simp
  have hl:=hV.len _ hm
  have h2:=hV.sk2
  have h3:=hV.pt2
  have:=points_any c.sk c.ra c.be vp vd vr c.pts c.done[i] s w hp (by omega) hV.pts hr (by omega) (hV.rows _ hm) (by omega)
  unfold scoreAt
  rw [List.getD_eq_getElem?_getD,List.getElem?_eq_getElem hi]
  exact this

set_option maxHeartbeats 1000000 in
set_option maxRecDepth 1000000 in
theorem f156_any(c:Cup)(hV:Valid c)(vp vd:Value)(W:World)(bd bs s:Nat)(x y:Nat)(hp:Ints W vp c.pts)(hd:Rows W vd c.done)(hs:(s:Int)<c.sk)
    (k0:W.cell? ⟨bd,0,none⟩=some (.int .i64 c.sk)) (k1:W.cell? ⟨bd,1,none⟩=some (.int .i64 c.ra)) (k2:W.cell? ⟨bd,2,none⟩=some (.int .i64 c.be)) (k3:W.cell? ⟨bd,3,none⟩=some vp) (k4:W.cell? ⟨bd,4,none⟩=some vd)
    (ks:W.cell? ⟨bs,0,none⟩=some (.int .i64 s)) (hx:x<c.done.length) (hy:y<c.done.length) :
    Calls Tryz.prog 165 #[.int .i64 x,.int .i64 y,.pointer (some ⟨bd,0,none⟩),.pointer (some ⟨bs,0,none⟩)] W (Ret (.int .i64 (cntCmp c s x y)) W):=by
  obtain ⟨p,cap,rfl,hlc,hcm,hc⟩:=hd.open
  obtain ⟨b,o,u,rfl,hcy,hry⟩:=hc y hy
  obtain ⟨b',o',u',hb',hcx,hrx⟩:=hc x hx
  cases hb'
  unfold maxLen at hcm
  have HY:=hid (fun (z:Later W)=>points_at hV (ints_below hp z.h) (rows_below hd z.h) hs hy (ints_below hry z.h))
  have HX:=hid (fun (z:Later W)=>points_at hV (ints_below hp z.h) (rows_below hd z.h) hs hx (ints_below hrx z.h))
  have HC:=hid (fun (z:Later W)=>compare_any (scoreAt c y s) (scoreAt c x s) z.W)
  have l0:=later_cell k0
  have l1:=later_cell k1
  have l2:=later_cell k2
  have l3:=later_cell k3
  have l4:=later_cell k4
  have ls:=later_cell ks
  have lx:=later_cell hcx
  have ly:=later_cell hcy
  have i1:(x:Int)<c.done.length:=by omega
  have i2:(y:Int)<c.done.length:=by omega
  have HE:=hid (show cntCmp c s x y=cmpI (scoreAt c y s) (scoreAt c x s) from rfl)
  clear hc hcx hcy k0 k1 k2 k3 k4 ks hp hd hrx hry
  go_enter Tryz.func165,Tryz.ntmps165
  go_wp2
  refine wp_region_qL (by kernel_rfl) (by kernel_rfl) ?_
  repeat (go_big_quiet_step (first | (go_at_call 105;first | with_reducible exact Later.call _ (HY.out _) | with_reducible exact Later.call _ (HX.out _)) | (go_at_call 100;with_reducible exact Later.same _ (HC.out _))))
  refine wpQuiet_nil (later_all fun w2 hb2 => ?_)
  go_wp2
  go_ret
  exact ⟨ret_int HE.out.symm,hb2⟩

abbrev deskBox(c:Cup)(vp vd:Value):Obj := .cells #[.int .i64 c.sk,.int .i64 c.ra,.int .i64 c.be,vp,vd] 129
abbrev cntW(w:World)(c:Cup)(vp vd:Value)(s:Nat):World:=(w.alloc (deskBox c vp vd)).alloc (.cells #[.int .i64 s] 3)

theorem cntBox{w W:World}{c:Cup}{vp vd:Value}{s:Nat}(hB:Below (w.heap.size+2) (cntW w c vp vd s) W) :
    W.cell? ⟨w.heap.size,0,none⟩=some (.int .i64 c.sk)∧W.cell? ⟨w.heap.size,1,none⟩=some (.int .i64 c.ra)∧W.cell? ⟨w.heap.size,2,none⟩=some (.int .i64 c.be) ∧
    W.cell? ⟨w.heap.size,3,none⟩=some vp∧W.cell? ⟨w.heap.size,4,none⟩=some vd∧W.cell? ⟨w.heap.size+1,0,none⟩=some (.int .i64 s):=by
  refine ⟨?_,?_,?_,?_,?_,?_⟩ <;> rw [hB.cell (by simp)] <;> simp [go_sem]

theorem cntW_below(w:World)(c:Cup)(vp vd:Value)(s:Nat):Below w.heap.size w (cntW w c vp vd s) :=
  ((Below.refl _ w).alloc (Nat.le_refl _) _).alloc (by simp) _

theorem cmp156(c:Cup)(hV:Valid c)(vp vd:Value)(w wr:World)(s:Nat)(hp:Ints w vp c.pts)(hd:Rows w vd c.done)(hs:(s:Int)<c.sk)(l:List Int)(hl:∀ x∈l,x∈idx c.done.length)
    (hB:Below (w.heap.size+2) (cntW w c vp vd s) wr) (b:Nat) (hb:w.heap.size+2≤b) :
    CmpOn Tryz.prog 165 #[.pointer (some ⟨w.heap.size,0,none⟩),.pointer (some ⟨w.heap.size+1,0,none⟩)] (Value.int .i64) (cntCmp c s) (fun x=>x∈l) wr b:=by
  refine ⟨enters_of Tryz.func165 (by kernel_rfl) rfl,fun W x y hx hy hg => ?_⟩
  obtain ⟨x,rfl,hx'⟩:=idx_mem (hl x hx)
  obtain ⟨y,rfl,hy'⟩:=idx_mem (hl y hy)
  have hs':w.heap.size+2≤wr.heap.size:=by have:=hB.size;simpa using this
  have hBW:Below (w.heap.size+2) (cntW w c vp vd s) W:=hB.grown hg hs' (fun k hk=>by cases hk;exact hb)
  obtain ⟨k0,k1,k2,k3,k4,k5⟩:=cntBox hBW
  have h0:Below w.heap.size w W:=(cntW_below w c vp vd s).trans (hBW.mono (by omega))
  exact f156_any c hV vp vd W _ _ s x y (ints_below hp h0) (rows_below hd h0) hs k0 k1 k2 k3 k4 k5 hx' hy'

theorem cnt_front{w1:World}{base:Nat}(m n j:Nat)(be:Int)(L:List Int)(p':Option Addr)(cap':Nat)(hl:L.length=m)(h1:n≤m)(h2:m≤n)(hbe:1≤be)(hj:j=(min (n:Int) be).toNat)
    (ho:w1.ownsRow base 3 1 (.slice p' j cap') j ((L.map (Value.int .i64)).take (j*1))):OwnI w1 base (.slice p' j cap') (L.take (min m be.toNat)):=by
  have e:j=min m be.toNat:=by omega
  have hlen:(L.take (min m be.toNat)).length=j:=by rw [List.length_take,hl];omega
  unfold OwnI
  rw [hlen,List.map_take,← e]
  rw [Nat.mul_one] at ho
  exact ho

set_option maxHeartbeats 2000000 in
set_option maxRecDepth 1000000 in
theorem counted_any(c:Cup)(hV:Valid c)(v:Value)(s:Nat)(w:World)(hv:CupAt w v c)(hs:(s:Int)<c.sk) :
    Calls Tryz.prog 128 #[v,.int .i64 s] w (RetOwn (countedL c s) w):=by
  obtain ⟨vp,vd,rfl,hp,hd⟩:=hv
  have HCM:=hid (fun wr l hl hB b hb=>cmp156 c hV vp vd w wr s hp hd hs l hl hB b hb)
  obtain ⟨pd,cd,rfl,hd2,hd3,_⟩:=hd.open
  obtain ⟨pp,cp,rfl,hp2,hp3,_⟩:=hp.open
  unfold maxLen at hd3 hp3
  have hm:c.done.length≤20:=by have:=hV.dn;have:=hV.ra2;omega
  have hbe1:=hV.be1
  have hbe2:=hV.be2
  have hra:=hV.ra2
  have HW:=hid (cntW_below w c (.slice pp c.pts.length cp) (.slice pd c.done.length cd) s)
  have hBB:=Below.refl (w.heap.size+2) (cntW w c (.slice pp c.pts.length cp) (.slice pd c.done.length cd) s)
  have HRES:=hid (show countedL c s=((isort (ltC (cntCmp c s)) (idx c.done.length)).take (min c.done.length c.be.toNat)).mergeSort leB from rfl)
  clear hp hd
  go_enter Tryz.func128,Tryz.ntmps128
  go_wp2
  go_loopw [5,11] (fun o i wr=>∃ (k n:Nat) (p:Option Addr) (cap:Nat),k≤c.done.length∧i = .int .i64 k∧o = .slice p n cap∧n≤k∧k≤n∧wr.ownsRow (w.heap.size+2) 3 1 (.slice p n cap) n ((idx k).map (Value.int .i64)) ∧
      Below (w.heap.size+2) (cntW w c (.slice pp c.pts.length cp) (.slice pd c.done.length cd) s) wr) (fun _ i _=>c.done.length-(intOf i).toNat)
  case atStart=>exact ⟨0,0,none,0,Nat.zero_le _,rfl,rfl,by omega,by omega,World.ownsRow_nil _ _ _ _,hBB⟩
  case round =>
    obtain ⟨k,n,p,cap,hk,rfl,rfl,hn1,hn2,ho,hB⟩:=hrel
    have HO:=hid ho
    have HB:=hid hB
    have hsz:w.heap.size+2≤wr.heap.size:=by have:=hB.size;simpa using this
    clear ho hB hBB
    by_cases hlt:k<c.done.length
    · have HN:=hid (idx_succ k)
      go_wp2_with (first | (at_builtin;((with_reducible apply wpL_append1 (hown:=HO.out.alloc _) (ht:=Tryz.underlying22) (hinfo:=info3z) (news:=[.int .i64 k]));rfl;omega;rfl;rfl;rfl;(intro j u hu;cases j with | zero=>(simp only [List.getElem?_cons_zero,Option.some.injEq] at hu;subst hu;simp) | succ j=>simp at hu);(intro u hu;simp only [List.mem_singleton] at hu;subst hu;rfl);omega;omega;(simp;omega);intro g' n' cap' w' hn' hn'1 hn'2 ho' hg';have HO':=hid ho';have HG':=hid hg';have HN':=hid hn';clear ho' hg' hn')))
      go_roundw
      case rel =>
        have ho2:=HO'.out
        have e1:(idx k).map (Value.int .i64)++[.int .i64 k]=(idx (k+1)).map (Value.int .i64):=by rw [HN.out,List.map_append];rfl
        rw [e1] at ho2
        exact ⟨k+1,n',_,cap',by omega,by go_num,rfl,by omega,by omega,ho2,(HB.out.alloc hsz _).grown HG'.out (by simp;omega) (fun q hq=>(HO.out.lt q hq).1)⟩
      case measure=>simp [intOf];omega
    · have hk2:k=c.done.length:=by omega
      have hlen:(isort (ltC (cntCmp c s)) (idx c.done.length)).length=c.done.length:=by rw [isort_length,idx_length]
      have HO2:Hid (wr.ownsRow (w.heap.size+2) 3 1 (.slice p n cap) n ((idx c.done.length).map (Value.int .i64))):=hid (hk2 ▸ HO.out)
      have HK:=hid hk2
      have HLT:=hid (fun q hq=>(HO.out.lt q hq).1)
      have HCC:=hid (fun q (hq:(Value.slice p n cap).ownBlock=some q)=>HCM.out wr (idx c.done.length) (fun x hx=>hx) HB.out q (HLT.out q hq))
      clear HO hk2
      have hn20:n≤20:=by omega
      have hme:min c.done.length c.be.toNat≤20:=by omega
      go_wp2_with (first
        | (go_at_call 164;refine (sortStable_ints _ _ _ _ _ _ _ _ _ HO2.out hn20 HCC.out).mono ?_;rintro e w1 ⟨rfl,ho1,hg1⟩;have HO1:=hid ho1;have HB1:=hid (HB.out.grown hg1 hsz HLT.out);clear ho1 hg1;obtain ⟨k0,k1,k2,k3,k4,k5⟩:=cntBox HB1.out)
        | ((with_reducible apply wpL_front (hown:=HO1.out) (hu:=Tryz.underlying22) (hsz:=info3));rfl;rfl;omega;omega;intro p' j' cap' hj1 hj2 ho2 hb2;have HJ:=hid hj1;have HO3:=hid (cnt_front c.done.length n j' c.be _ p' cap' hlen (by omega) (by omega) (by omega) hj1 ho2);have HOB:=hid hb2;clear hj1 hj2 ho2 hb2)
        | (go_at_call 85;refine (sort_own _ _ _ _ HO3.out (by rw [List.length_take];omega)).mono ?_;rintro e w2 ⟨rfl,ho4,hg4⟩;have HO4:=hid ho4;have HG4:=hid hg4;clear ho4 hg4))
      go_ret
      have hsz1:w.heap.size+2≤w1.heap.size:=by have:=HB1.out.size;simpa using this
      have hB2:Below (w.heap.size+2) (cntW w c (.slice pp c.pts.length cp) (.slice pd c.done.length cd) s) w2 :=
        HB1.out.grown HG4.out hsz1 (fun q hq=>HLT.out q (by rw [← HOB.out];exact hq))
      have ho5:=HO4.out
      rw [← HRES.out] at ho5
      exact RetOwn.of (OwnI.later ho5 (Below.refl _ _) (by omega)) (HW.out.trans (hB2.mono (by omega)))
end KL
end Go.Proofs
end
section
namespace Go.Proofs
open Go.RowKit
namespace KL
section
variable {P:Program} {ops:Array Oper} {rest:List Oper} {dst:Option Tmp} {ty:TypeId} {pos:String} {af:Array Edge} {a:Act} {w:World} {Q:Exit→Act→World→Prop}

theorem wpL_alloc{t:TypeId}{z:Value}(Z:Array Value)(hz:∀ w,(zeroValue t).run P w = .ok z w)(hZ:z.cells=Z)
    (h:wpList P ops Q rest (a.put dst (.pointer (some ⟨w.heap.size,0,none⟩))) (w.alloc (.cells Z t))) :
    wpList P ops Q ({ dst:=dst,op := .alloc t,type:=ty,pos:=pos,after:=af,guard:=none }::rest) a w:=by
  subst hZ
  refine wpList_plain rfl fun K hK => ?_
  unfold Oper.wp
  simp only [execOp,Instr.alloc,Sem.run_bind,hz,Result.andThen_ok,newVar,newRow,newObj]
  exact hK _ _ h

theorem wpL_loadRow{t e:TypeId}{x:Operand}{g:Nat}{cs:Array Value}{d:TypeDesc}(hg:w.heap[g]? = some (.cells cs e (0,0)))
    (hu:P.underlying t=some d) (hd:(match d with | .struct _ | .array _ _=>true | _=>false)=true) (hi:(P.info? t).map (·.size)=some cs.size)
    (hx:a.eval x = .pointer (some ⟨g,0,none⟩))
    (h:wpList P ops Q rest (a.put dst (.agg cs)) w) :
    wpList P ops Q ({ dst:=dst,op := .load t x,type:=ty,pos:=pos,after:=af,guard:=none }::rest) a w :=
  wpList_load_row rfl t x rfl g hx e cs (0,0) d hg hu hd hi h

theorem heap_setCells(g:Nat)(e:TypeId):∀ (vs:List Value) (o:Nat) (w:World) (cs:Array Value),w.heap[g]? = some (.cells cs e (0,0))→o+vs.length≤cs.size →
    ∃ cs',(w.setCells g o vs).heap[g]? = some (.cells cs' e (0,0))∧cs'.size=cs.size∧(∀ j,j<o→cs'[j]? = cs[j]?)∧(∀ j,j<vs.length→cs'[o+j]? = vs[j]?)∧(∀ j,o+vs.length≤j→cs'[j]? = cs[j]?)∧w.grownBy (w.setCells g o vs) (some g)∧(w.setCells g o vs).heap.size=w.heap.size
  | [],o,w,cs,hg,_=>⟨cs,hg,rfl,fun _ _=>rfl,fun j h=>by simp at h,fun _ _=>rfl,World.grownBy.refl _ _,rfl⟩
  | v::vs,o,w,cs,hg,hs=>by
    simp only [List.length_cons] at hs
    have h1:=heap_setCell_same w g o cs e v hg
    obtain ⟨cs',h2,h3,h4,h5,h6,h7,h8⟩:=heap_setCells g e vs (o+1) (w.setCell ⟨g,o,none⟩ v) _ h1 (by simp;omega)
    refine ⟨cs',h2,by simpa using h3,fun j hj => ?_,fun j hj => ?_,fun j hj => ?_,?_,?_⟩
    · rw [h4 j (by omega),Array.getElem?_setIfInBounds,if_neg (by omega)]
    · cases j with
      | zero=>rw [Nat.add_zero,h4 o (by omega),Array.getElem?_setIfInBounds,if_pos rfl,if_pos (by omega)];rfl
      | succ j=>rw [show o+(j+1)=o+1+j by omega,h5 j (by simpa using hj)];rfl
    · simp only [List.length_cons] at hj
      rw [h6 j (by omega),Array.getElem?_setIfInBounds,if_neg (by omega)]
    · refine grown_then (wr:=w.setCell ⟨g,o,none⟩ v) ⟨rfl,rfl,rfl,by simp,fun k _ hk=>heap_setCell_other w ⟨g,o,none⟩ k v (fun e=>hk (by simp [e]))⟩ h7
    · exact h8.trans (by simp)

theorem wpL_storeRow{t e:TypeId}{x y:Operand}{g:Nat}{cs cells:Array Value}(hg:w.heap[g]? = some (.cells cs e (0,0)))(hi:(P.info? t).map (·.size)=some cells.size)
    (hsz:cells.size=cs.size) (h1:cells.all (·.oneCell')=true) (hx:a.eval x = .pointer (some ⟨g,0,none⟩)) (hy:a.eval y = .agg cells)
    (h:∀ w',w'.heap[g]? = some (.cells cells e (0,0))→w.grownBy w' (some g)→wpList P ops Q rest (a.put dst undef) w') :
    wpList P ops Q ({ dst:=dst,op := .store t x y,type:=ty,pos:=pos,after:=af,guard:=none }::rest) a w:=by
  refine wpList_store_mid rfl t x y rfl g 0 cells hx hy (fun j hj => ?_) hi h1 ?_
  · rw [Nat.zero_add,cell_of_row w g j cs e (0,0) hg,frozen_of_row w g j cs e hg]
    refine ⟨?_,rfl⟩
    rw [Array.getElem?_eq_getElem (by omega)]
    rfl
  · obtain ⟨cs',h2,h3,_,h5,_,h7,_⟩:=heap_setCells g e cells.toList 0 w cs hg (by simp;omega)
    have:cs'=cells:=by
      apply Array.ext_getElem?
      intro j
      by_cases hj:j<cells.size
      · have:=h5 j (by simpa using hj)
        rw [Nat.zero_add] at this
        rw [this];simp
      · rw [Array.getElem?_eq_none (by omega),Array.getElem?_eq_none (by omega)]
    subst this
    exact h _ h2 h7
end
end KL
end Go.Proofs
end
section
namespace Go.Proofs
open Go.RowKit
namespace KL
section
variable {P:Program} {ops:Array Oper} {md:Region.Mode} {C:World→Prop}

def AnyT(P:Program)(md:Region.Mode)(ops:Array Oper)(C:World→Prop)(n:Nat)(L:Array Bool→Act→Prop):Nat→Array Bool→Act→Prop
  | 0,listed,a=>L listed a
  | f+1,listed,a=>Region.ready md ops listed≠[]∧∀ i∈Region.ready md ops listed,i<n∧qOp P ops C i (AnyT P md ops C n L f (listed.setIfInBounds i true)) a

theorem AnyT.any{n g:Nat}{L:Array Bool→Act→Prop}{Q':Exit→Act→World→Prop}(hL:∀ listed a w,C w→L listed a→wpAny P md ops Q' g listed a w) :
    ∀ (f:Nat) (listed:Array Bool) (a:Act) (w:World),C w→AnyT P md ops C n L f listed a→wpAny P md ops Q' (f+g) listed a w
  | 0,listed,a,w,hw,h=>by rw [Nat.zero_add];exact hL _ _ _ hw h
  | f+1,listed,a,w,hw,h=>by
    have e:f+1+g=(f+g)+1:=by omega
    rw [e]
    refine ⟨fun h0=>absurd h0 h.1,fun i hi => ?_⟩
    exact wpOp_of_qOp hw (fun a' w' hw' h'=>AnyT.any hL f _ a' w' hw' h') (h.2 i hi).2

theorem AnyT.first{n i:Nat}{oi:Oper}{v:Value}{L:Array Bool→Act→Prop}(hi:ops[i]? = some oi)(hsel:∀ (j:Nat) (o:Oper) cs b,ops[j]? = some o→o.op ≠ .select cs b)
    (hs:Region.sinkB md ops n=true) (hc:Region.chainB md ops n=true) (hn:n<ops.size) (hin:i<n) (hdone:∀ listed a,L listed a→∀ j∈Region.ready md ops listed,n≤j)
    (f:Nat):∀ (listed:Array Bool) (a:Act),HeadInv md ops n listed →
      (∀ j oj,ops[j]? = some oj→j≠i→listed.getD j true=false→(∀ e∈oj.after,Region.binds md e=true→e.on≠i)→oi.apart ops oj=true) →
      i∈Region.ready md ops listed→YieldsIn P ops C oi v a→AnyT P md ops C n L f (listed.setIfInBounds i true) (a.put oi.dst v)→AnyT P md ops C n L (f+1) listed a:=by
  induction f with
  | zero =>
    intro listed a inv _ hr hy H
    refine ⟨fun h=>(by rw [h] at hr;cases hr),fun j hj => ?_⟩
    have hjn:j<n:=Nat.lt_of_not_le fun h=>tail_waits hs hc hn inv _ i rfl hin (mem_ready.1 hr).1 j h hj
    refine ⟨hjn,?_⟩
    by_cases hji:j=i
    · subst hji
      exact hy.qOp hi H
    · exact absurd (hdone _ _ H j (ready_mono hj hji)) (by omega)
  | succ f ih =>
    intro listed a inv hfree hr hy H
    have hun:=(mem_ready.1 hr).1
    refine ⟨fun h=>(by rw [h] at hr;cases hr),fun j hj => ?_⟩
    have hjn:j<n:=Nat.lt_of_not_le fun h=>tail_waits hs hc hn inv _ i rfl hin hun j h hj
    refine ⟨hjn,?_⟩
    by_cases hji:j=i
    · subst hji
      exact hy.qOp hi H
    obtain ⟨hjun,oj,hoj,hall⟩:=mem_ready.1 hj
    have hnot:∀ e∈oj.after,Region.binds md e=true→e.on≠i:=by
      intro e he hb heq
      have h1:=hall e he hb
      rw [heq,getD_both hun] at h1
      cases h1
    have h2:=qOp_put hoj (hfree j oj hoj hji hjun hnot) (fun cs b=>hsel i oi cs b hi) (fun cs b=>hsel j oj cs b hoj) hy (H.2 j (ready_mono hj hji)).2
    refine qOp_mono (fun a' h3 => ?_) h2
    refine ih (listed.setIfInBounds j true) a' (inv.set hj hjn) (fun k ok hk hki hun' hno => ?_) (ready_mono hr (Ne.symm hji)) h3.1 ?_
    · refine hfree k ok hk hki ?_ hno
      by_cases hjk:j=k
      · subst hjk;exact hjun
      · rw [getD_set_ne true hjk] at hun';exact hun'
    · rw [Array.setIfInBounds_comm _ _ hji]
      exact h3.2

theorem AnyT.lex{n g:Nat}{Lq:Act→Prop}(hsel:Region.noSelect ops=true)(hs:Region.sinkB md ops n=true)(hc:Region.chainB md ops n=true)(hn:n<ops.size) :
    ∀ (l:List Oper) (k:Nat) (listed:Array Bool) (a:Act),(∀ j,j<l.length→l[j]? = ops[k+j]?)→k+l.length=n→HeadInv md ops n listed →
    Region.lexHead md ops g l.length k listed=true→wpQuiet P ops C Lq l a →
    AnyT P md ops C n (fun listed' a'=>Region.seqB md ops g n listed'=true∧Lq a') l.length listed a:=by
  intro l
  induction l with
  | nil =>
    intro k listed a _ hk _ hB h
    obtain rfl:k=n:=by simpa using hk
    exact ⟨by simpa [Region.lexHead] using hB,h⟩
  | cons o l ih =>
    intro k listed a hl hk inv hB h
    have h0:ops[k]? = some o:=by simpa using (hl 0 (by simp)).symm
    simp only [List.length_cons,Region.lexHead,Bool.and_eq_true] at hB
    obtain ⟨⟨hr,hf⟩,hB'⟩:=hB
    simp only [List.length_cons] at hk hl
    have hr':k∈Region.ready md ops listed:=by simpa using hr
    have hst:qOp P ops C k (wpQuiet P ops C Lq l) a:=by
      unfold qOp
      simp only [h0]
      exact h
    obtain ⟨v,hy,hK⟩:=yieldsIn_of_qOp h0 hst
    refine AnyT.first h0 (Region.noSelect_spec hsel) hs hc hn (by omega) (fun listed' a' hL=>seqB_ready hL.1) l.length listed a inv (Region.free_spec h0 hf) hr' hy ?_
    refine ih (k+1) _ _ (fun j hj => ?_) (by omega) (inv.set hr' (by omega)) hB' hK
    have:=hl (j+1) (by omega)
    simpa [Nat.add_assoc,Nat.add_comm 1 j] using this

theorem wp_region_qT{id:Nat}{Q:Exit→Act→World→Prop}{a:Act}{w:World}{l:List Oper}(n:Nat)(hm:P.follows .mixedOrders=true)(hB:Region.lexTailB .any l.toArray n=true)
    (h:wpQuiet P l.toArray (fun w'=>∃ z:Later w,w'=z.W) (fun a'=>∀ w',(∃ z:Later w,w'=z.W)→wpList P l.toArray Q (l.drop n) a' w') (l.take n) a):(Code.region id l.toArray true).wp P Q a w:=by
  simp only [Region.lexTailB,Bool.and_eq_true,decide_eq_true_eq] at hB
  obtain ⟨⟨⟨⟨hsel,hn⟩,hs⟩,hc⟩,hlex⟩:=hB
  have hnl:n<l.length:=by simpa using hn
  have htl:(l.take n).length=n:=by simp;omega
  have hdl:(l.drop n).length=l.toArray.size-n:=by simp
  have inv0:HeadInv .any l.toArray n (Array.replicate l.toArray.size false) :=
    ⟨by simp,fun j oj _ hl=>(by rw [getD_replicate_false] at hl;cases hl),fun t _ ht=>getD_in (by simpa using ht) (getD_replicate_false _ _)⟩
  have H:=AnyT.lex (md := .any) (g:=l.toArray.size-n) hsel hs hc hn (l.take n) 0 _ a (fun j hj=>by
    rw [htl] at hj
    simp [hj]) (by omega) inv0 (by rw [htl];exact hlex) h
  refine wp_region_any hm ?_
  have H2:=AnyT.any (Q':=Q) (g:=l.toArray.size-n) (fun listed a' w' hw' hL=>by
    have:=wpAny_of_seq (md := .any) (Q':=Q) (l.drop n) n listed a' w' (fun j=>by simp [List.getElem?_drop]) (by rw [hdl];exact hL.1) (hL.2 w' hw')
    rwa [hdl] at this) _ _ _ { w with drawn:=w.drawn+1 } ⟨⟨_,(Below.refl _ w).drew⟩,rfl⟩ H
  have e:n+(l.toArray.size-n)=l.toArray.size:=by omega
  rw [htl,e] at H2
  exact H2
end
end KL
end Go.Proofs
end
section
namespace Go.Proofs
open Go.RowKit Go.Lib Go.Sort
namespace KL

def formC(t:Int)(pl:List Int):Array Value:=(Value.int .i64 t::pl.map (Value.int .i64)).toArray
def zeros61:List Int:=List.replicate 61 0
def formZ:Array Value:=formC 0 zeros61

def totalM(c:Cup)(s:Nat):Int:=((countedL c s).map fun i=>scoreAt c i.toNat s).sum
def oftenUpTo(c:Cup)(s k:Nat)(p:Nat):Int:=if p=0 then 0 else ((c.done.take k).countP (fun r=>decide (r.getD s 0=(p:Int))):Nat)
def placesUpTo(c:Cup)(s k:Nat):List Int:=(List.range 61).map (oftenUpTo c s k)
def placesM(c:Cup)(s:Nat):List Int:=placesUpTo c s c.done.length
def formM(c:Cup)(s:Nat):Array Value:=formC (totalM c s) (placesM c s)

theorem zero136:∀ w,(zeroValue 145).run Tryz.prog w = .ok (.agg formZ) w:=fun w=>by rw [Tryz.zeroValue145];rfl
theorem size136:(Tryz.prog.info? 145).map (·.size)=some 62:=by kernel_rfl

theorem formC_size(t:Int)(pl:List Int):(formC t pl).size=pl.length+1:=by simp [formC]
theorem formC_0(t:Int)(pl:List Int):(formC t pl)[0]? = some (.int .i64 t):=by simp [formC]
theorem formC_p(t:Int)(pl:List Int)(p:Nat)(h:p<pl.length):(formC t pl)[1+p]? = some (.int .i64 pl[p]):=by
  rw [Nat.add_comm]
  simp [formC,h]
theorem formC_set0(t t':Int)(pl:List Int):(formC t pl).setIfInBounds 0 (.int .i64 t')=formC t' pl:=by simp [formC]
theorem formC_setp(t:Int)(pl:List Int)(p:Nat)(x:Int):(formC t pl).setIfInBounds (1+p) (.int .i64 x)=formC t (pl.set p x):=by
  rw [Nat.add_comm]
  simp [formC,List.map_set]
theorem formC_one(t:Int)(pl:List Int):(formC t pl).all (·.oneCell')=true:=by
  rw [Array.all_eq_true_iff_forall_mem]
  intro v hv
  simp only [formC,List.mem_toArray,List.mem_cons,List.mem_map] at hv
  rcases hv with rfl | ⟨x,_,rfl⟩ <;> rfl

theorem placesUpTo_length(c:Cup)(s k:Nat):(placesUpTo c s k).length=61:=by simp [placesUpTo]
theorem placesUpTo_zero(c:Cup)(s:Nat):placesUpTo c s 0=zeros61:=by
  unfold placesUpTo zeros61
  apply List.ext_getElem (by simp)
  intro i h1 h2
  simp only [List.getElem_map,List.getElem_range,List.getElem_replicate,oftenUpTo,List.take_zero,List.countP_nil]
  split <;> rfl
theorem placesUpTo_bd(c:Cup)(s k p:Nat)(h:p<(placesUpTo c s k).length):0≤(placesUpTo c s k)[p]∧(placesUpTo c s k)[p]≤k:=by
  simp only [placesUpTo,List.getElem_map,List.getElem_range,oftenUpTo]
  split
  · omega
  · have h1:(c.done.take k).countP (fun r=>decide (r.getD s 0=(p:Int)))≤(c.done.take k).length:=List.countP_le_length
    have h2:(c.done.take k).length≤k:=List.length_take_le _ _
    omega

theorem placesUpTo_none(c:Cup)(s k:Nat)(hk:k<c.done.length)(h:c.done[k].getD s 0=0):placesUpTo c s (k+1)=placesUpTo c s k:=by
  unfold placesUpTo
  apply List.map_congr_left
  intro p _
  unfold oftenUpTo
  split
  · rfl
  · rw [List.take_succ_eq_append_getElem hk,List.countP_append,List.countP_singleton,h]
    rw [if_neg (by simp;omega)]
    simp

theorem placesUpTo_some(c:Cup)(s k p:Nat)(hk:k<c.done.length)(h:c.done[k].getD s 0=(p:Int))(hp:0<p)(hp2:p<61)(hl:p<(placesUpTo c s k).length) :
    placesUpTo c s (k+1)=(placesUpTo c s k).set p ((placesUpTo c s k)[p]+1):=by
  apply List.ext_getElem (by simp [placesUpTo])
  intro i h1 h2
  rw [List.getElem_set]
  simp only [placesUpTo,List.getElem_map,List.getElem_range,oftenUpTo]
  by_cases hi:p=i
  · subst hi
    rw [if_pos rfl,if_neg (by omega),if_neg (by omega),List.take_succ_eq_append_getElem hk,List.countP_append,List.countP_singleton,h]
    simp
  · rw [if_neg hi]
    split
    · rfl
    · rw [List.take_succ_eq_append_getElem hk,List.countP_append,List.countP_singleton,h]
      rw [if_neg (by simp;omega)]
      simp

theorem scoreM_bd(pts race:List Int)(s:Nat)(hpr:∀ x∈pts,0≤x∧x≤1000):0≤scoreM pts race s∧scoreM pts race s≤1000:=by
  unfold scoreM
  split
  · omega
  · have h1:=worthM_bd pts (race.getD s 0).toNat (race.count (race.getD s 0)) hpr
    generalize race.count (race.getD s 0)=m at *
    generalize worthM pts (race.getD s 0).toNat m=x at *
    by_cases hm:m=0
    · subst hm;simp
    · refine ⟨Int.ediv_nonneg h1.1 (by omega),?_⟩
      have:x / (m:Int)≤(1000*(m:Int)) / (m:Int):=Int.ediv_le_ediv (by omega) h1.2
      rwa [Int.mul_ediv_cancel _ (by omega)] at this

theorem countedL_mem{c:Cup}{s:Nat}{x:Int}(h:x∈countedL c s):∃ k:Nat,x=k∧k<c.done.length:=by
  unfold countedL at h
  rw [List.mem_mergeSort] at h
  exact idx_mem ((isort_mem _ _ _).1 (List.mem_of_mem_take h))
theorem countedL_length(c:Cup)(s:Nat):(countedL c s).length=min c.done.length c.be.toNat:=by
  unfold countedL
  rw [List.length_mergeSort,List.length_take,isort_length,idx_length]
  omega

def partTotal(c:Cup)(s k:Nat):Int:=(((countedL c s).take k).map fun i=>scoreAt c i.toNat s).sum
theorem partTotal_succ(c:Cup)(s k:Nat)(h:k<(countedL c s).length):partTotal c s (k+1)=partTotal c s k+scoreAt c (countedL c s)[k].toNat s:=by
  unfold partTotal
  rw [List.take_succ_eq_append_getElem h,List.map_append,List.sum_append]
  simp
theorem partTotal_bd(c:Cup)(hV:Valid c)(s:Nat):∀ k,0≤partTotal c s k∧partTotal c s k≤1000*k:=by
  intro k
  unfold partTotal
  have:=sum_bd (((countedL c s).take k).map fun i=>scoreAt c i.toNat s) (fun x hx=>by
    rw [List.mem_map] at hx
    obtain ⟨i,_,rfl⟩:=hx
    exact scoreM_bd _ _ _ hV.pts)
  have h2:(((countedL c s).take k).map fun i=>scoreAt c i.toNat s).length≤k:=by simp;omega
  omega

theorem sumR_two(a b:Int)(h1:0≤a)(h2:a≤100000)(h3:0≤b)(h4:b≤100000):sumR [a,b]=a+b:=by
  unfold sumR
  simp only [List.foldl_cons,List.foldl_nil]
  unfold wrap64
  omega

theorem ints_two(w:World)(a b:Int):Ints (w.alloc (.cells #[.int .i64 a,.int .i64 b] 3)) (.slice (some ⟨w.heap.size,0,none⟩) 2 2) [a,b]:=by
  refine ⟨some ⟨w.heap.size,0,none⟩,2,rfl,by simp,by simp [maxLen],fun i hi=>⟨w.heap.size,0,.int .i64 [a,b][i],rfl,?_,rfl⟩⟩
  simp only [List.length_cons,List.length_nil] at hi
  match i,hi with
  | 0,_=>simp
  | 1,_=>simp

abbrev formW(w:World)(c:Cup)(vp vd:Value):World:=((w.alloc (deskBox c vp vd)).alloc (.cells formZ 145)).alloc (.cells formZ 145)

theorem formW_below(w:World)(c:Cup)(vp vd:Value):Below w.heap.size w (formW w c vp vd) :=
  (((Below.refl _ w).alloc (Nat.le_refl _) _).alloc (by simp) _).alloc (by simp;omega) _
theorem formW_size(w:World)(c:Cup)(vp vd:Value):(formW w c vp vd).heap.size=w.heap.size+3:=by simp
theorem formW_b5(w:World)(c:Cup)(vp vd:Value):(formW w c vp vd).heap[w.heap.size+2]? = some (.cells formZ 145 (0,0)):=by
  have:=heap_alloc_new ((w.alloc (deskBox c vp vd)).alloc (.cells formZ 145)) (.cells formZ 145)
  simpa using this
theorem formW_b4(w:World)(c:Cup)(vp vd:Value):(formW w c vp vd).heap[w.heap.size+1]? = some (.cells formZ 145 (0,0)):=by
  have:=heap_alloc_new (w.alloc (deskBox c vp vd)) (.cells formZ 145)
  rw [Go.heap_alloc_old _ _ (by simp)]
  simpa using this
theorem formW_b2(w:World)(c:Cup)(vp vd:Value):(formW w c vp vd).heap[w.heap.size]? = some (deskBox c vp vd):=by
  rw [Go.heap_alloc_old _ _ (by simp;omega),Go.heap_alloc_old _ _ (by simp)]
  exact heap_alloc_new w _

theorem desk_cells{W:World}{b:Nat}{c:Cup}{vp vd:Value}(h:W.heap[b]? = some (deskBox c vp vd)) :
    W.cell? ⟨b,0,none⟩=some (.int .i64 c.sk)∧W.cell? ⟨b,1,none⟩=some (.int .i64 c.ra)∧W.cell? ⟨b,2,none⟩=some (.int .i64 c.be)∧W.cell? ⟨b,3,none⟩=some vp∧W.cell? ⟨b,4,none⟩=some vd:=by
  refine ⟨?_,?_,?_,?_,?_⟩ <;> rw [cell_of_row _ _ _ _ _ _ h] <;> rfl

theorem grown_set(w:World)(b o:Nat)(u:Value):w.grownBy (w.setCell ⟨b,o,none⟩ u) (some b) :=
  ⟨rfl,rfl,rfl,by simp,fun q _ hq=>heap_setCell_other w ⟨b,o,none⟩ q u (fun e=>hq (by simp [e]))⟩

set_option maxHeartbeats 2000000 in
set_option maxRecDepth 1000000 in
theorem form_any(c:Cup)(hV:Valid c)(v:Value)(s:Nat)(w:World)(hv:CupAt w v c)(hs:(s:Int)<c.sk) :
    Calls Tryz.prog 106 #[v,.int .i64 s] w (Ret (.agg (formM c s)) w):=by
  obtain ⟨vp,vd,rfl,hp,hd⟩:=hv
  have HCN:=hid (counted_any c hV _ s (formW w c vp vd) ⟨vp,vd,rfl,ints_below hp (formW_below w c vp vd),rows_below hd (formW_below w c vp vd)⟩ hs)
  have HP:=hid hp
  have HD:=hid hd
  obtain ⟨pd,cd,rfl,hd2,hd3,hdc⟩:=hd.open
  obtain ⟨pp,cp,rfl,hp2,hp3,_⟩:=hp.open
  unfold maxLen at hd3 hp3
  have hm:c.done.length≤20:=by have:=hV.dn;have:=hV.ra2;omega
  obtain ⟨W0,hW0⟩:∃ W0,W0=formW w c (.slice pp c.pts.length cp) (.slice pd c.done.length cd):=⟨_,rfl⟩
  have HW:=hid (hW0 ▸ formW_below w c (.slice pp c.pts.length cp) (.slice pd c.done.length cd))
  have HSZ:=hid (hW0 ▸ formW_size w c (.slice pp c.pts.length cp) (.slice pd c.done.length cd))
  have H5:=hid (hW0 ▸ formW_b5 w c (.slice pp c.pts.length cp) (.slice pd c.done.length cd))
  have H4:=hid (hW0 ▸ formW_b4 w c (.slice pp c.pts.length cp) (.slice pd c.done.length cd))
  have H2:=hid (hW0 ▸ formW_b2 w c (.slice pp c.pts.length cp) (.slice pd c.done.length cd))
  clear hp hd
  go_enter Tryz.func106,Tryz.ntmps106
  go_wp2_with (first | (with_reducible apply wpL_alloc formZ zero136 rfl) | (go_at_call 128;fail))
  rw [show (((w.alloc (.cells #[.int .i64 c.sk,.int .i64 c.ra,.int .i64 c.be,.slice pp c.pts.length cp,.slice pd c.done.length cd] 129)).alloc (.cells formZ 145)).alloc (.cells formZ 145))=W0 from hW0.symm]
  rw [← hW0] at HCN
  refine HCN.out.mono ?_
  rintro e w1 ⟨p,n,cap,rfl,hn,ho,hb⟩
  have HO:=hid ho
  have HN:=hid hn
  have HW1:=hid hb
  have hn1:n≤(countedL c s).length:=by omega
  have hn2:(countedL c s).length≤n:=by omega
  have hn3:n≤20:=by have:=countedL_length c s;omega
  clear ho hn hb HCN
  obtain ⟨B5,hB5⟩:∃ B5,B5=w.heap.size+1+1:=⟨_,rfl⟩
  obtain ⟨B4,hB4⟩:∃ B4,B4=w.heap.size+1:=⟨_,rfl⟩
  obtain ⟨B2,hB2⟩:∃ B2,B2=w.heap.size:=⟨_,rfl⟩
  rw [← hB5,← hB4,← hB2]
  have h5:w1.heap[B5]? = some (.cells formZ 145 (0,0)):=by rw [HW1.out.block B5 (by rw [HSZ.out];omega),hB5];exact H5.out
  have h4:w1.heap[B4]? = some (.cells formZ 145 (0,0)):=by rw [HW1.out.block B4 (by rw [HSZ.out];omega),hB4];exact H4.out
  have h2:w1.heap[B2]? = some (deskBox c (.slice pp c.pts.length cp) (.slice pd c.done.length cd)):=by rw [HW1.out.block B2 (by rw [HSZ.out];omega),hB2];exact H2.out
  have hbel:Below w.heap.size w w1:=HW.out.trans (HW1.out.mono (by rw [HSZ.out];omega))
  have HBL:=hid hbel
  have HBASE:=hid (show (formW w c (.slice pp c.pts.length cp) (.slice pd c.done.length cd)).heap.size=B5+1 by rw [formW_size];omega)
  have Hb5:=hid (show B5=w.heap.size+2 by omega)
  have Hb4:=hid (show B4=w.heap.size+1 by omega)
  have Hb2:=hid (show B2=w.heap.size by omega)
  have H5:=hid h5
  have H4:=hid h4
  have H2:=hid h2
  have HO2:Hid (OwnI w1 (B5+1) (.slice p n cap) (countedL c s)):=hid (by rw [← HBASE.out,← hW0];exact HO.out)
  clear h5 h4 h2 hbel hB5 hB4 hB2 HW1 HW HSZ hW0 HO HBASE
  have hsz1:=lt_of_block H5.out
  go_wp2
  go_loopw [14] (fun i wr=>∃ (k:Nat) ,k≤n∧i = .int .i64 k∧wr.heap[B5]? = some (.cells (formC (partTotal c s k) zeros61) 145 (0,0))∧w1.grownBy wr (some B5)) (fun i _=>n-(intOf i).toNat)
  case atStart=>exact ⟨0,Nat.zero_le _,rfl,H5.out,World.grownBy.refl _ _⟩
  case round =>
    obtain ⟨k,hk,rfl,h5,hg⟩:=hrel
    have hsz2:=Nat.lt_of_lt_of_le hsz1 hg.size
    have hBr:Below w.heap.size w wr:=HBL.out.grown hg HBL.out.size (fun q hq=>by cases hq;have:=Hb5.out;omega)
    have HBR:=hid hBr
    have HG:=hid hg
    have h2:wr.heap[B2]? = some (deskBox c (.slice pp c.pts.length cp) (.slice pd c.done.length cd)):=(hg.block B2 (lt_of_block H2.out) (by have:=Hb5.out;have:=Hb2.out;simp;omega)).trans H2.out
    obtain ⟨k0,k1,k2,k3,k4⟩:=desk_cells h2
    by_cases hlt:k<n
    · have hx:=List.getElem?_eq_getElem (l:=countedL c s) (show k<(countedL c s).length by omega)
      obtain ⟨j,hj,hjl⟩:=countedL_mem (List.getElem_mem (l:=countedL c s) (show k<(countedL c s).length by omega))
      have HPT:=hid (partTotal_succ c s k (by omega))
      obtain ⟨hpt1,hpt2⟩:=partTotal_bd c hV s k
      obtain ⟨hsb1,hsb2⟩:=scoreM_bd c.pts (c.done.getD j []) s hV.pts
      rw [hj] at hx HPT
      have hown:=World.ownsRow.kept HO2.out hg (by
        rcases HO2.out.2 with ⟨h0,_⟩ | ⟨g,_,_,h0,hgb,_⟩
        · left;rw [h0];rfl
        · right;rw [h0];simp [Value.ownBlock];omega)
      obtain ⟨g,rfl⟩:∃ g,p=some ⟨g,0,none⟩:=by
        rcases HO2.out.2 with ⟨h0,h1⟩ | ⟨g,_,_,h0,_⟩
        · omega
        · cases h0;exact ⟨g,rfl⟩
      have ho3:wr.ownsRow (B5+1) 3 1 (.slice (some ⟨g,0,none⟩) n cap) n ((countedL c s).map (Value.int .i64)):=by
        have:(countedL c s).length=n:=by omega
        rw [this] at hown
        exact hown
      have cx:=own_cell ho3 hx
      obtain ⟨b,o,u,rfl,hcu,hru⟩:=hdc j hjl
      have cu:=(hBr.cell (p:=⟨b,o+j,none⟩) (World.block_lt_of_cell? w _ hcu)).trans hcu
      have c5:wr.cell? ⟨B5,0,none⟩=some (.int .i64 (partTotal c s k)):=by rw [cell_of_row _ _ _ _ _ _ h5,formC_0]
      have HPA:=hid (fun (z:Later wr)=>points_at hV (ints_below HP.out (hBr.trans (z.h.mono hBr.size))) (rows_below HD.out (hBr.trans (z.h.mono hBr.size))) hs hjl (ints_below hru (hBr.trans (z.h.mono hBr.size))))
      have l0:=later_cell k0
      have l1:=later_cell k1
      have l2:=later_cell k2
      have l3:=later_cell k3
      have l4:=later_cell k4
      have lx:=later_cell cx
      have lu:=later_cell cu
      have l5:=later_cell c5
      have i1:(j:Int)<c.done.length:=by omega
      have H5:=hid h5
      have HJ:=hid hj
      have HSC:=hid (show scoreAt c j s=scoreM c.pts (c.done.getD j []) s from rfl)
      obtain ⟨sc,hsc⟩:∃ sc,sc=scoreAt c j s:=⟨_,rfl⟩
      obtain ⟨pt,hpt⟩:∃ pt,pt=partTotal c s k:=⟨_,rfl⟩
      rw [← hsc] at HPA HSC
      rw [← HSC.out] at hsb1 hsb2
      rw [← hpt] at hpt1 hpt2 l5
      have HSCE:=hid hsc
      have HPTE:=hid hpt
      clear h5 hg hBr h2 k0 k1 k2 k3 k4 hdc hx hown ho3 hcu hru cu c5 hj hsc hpt HSC
      go_wp2
      refine wp_region_qT 12 (by kernel_rfl) (by kernel_rfl) ?_
      simp only [List.take_succ_cons,List.take_zero,List.drop_succ_cons,List.drop_zero]
      repeat (go_big_quiet_step ((go_at_call 105;with_reducible exact Later.call _ (HPA.out _))))
      refine wpQuiet_nil (later_all fun w2 hb2 => ?_)
      have h5a:w2.heap[B5]? = some (.cells (formC pt zeros61) 145 (0,0)):=by rw [hb2.block B5 (by omega),HPTE.out];exact H5.out
      have HSUM:=hid (sum_any _ _ (w2.alloc (.cells #[.int .i64 pt,.int .i64 sc] 3)) (ints_two w2 pt sc))
      rw [sumR_two pt sc hpt1 (by omega) hsb1 (by omega)] at HSUM
      have c5a:w2.cell? ⟨B5,0,none⟩=some (.int .i64 pt):=by rw [cell_of_row _ _ _ _ _ _ h5a,formC_0]
      have f5a:=frozen_of_row _ _ 0 _ _ h5a
      have hB52:=lt_of_block h5a
      have H5A:=hid h5a
      have HB2:=hid hb2
      clear h5a hb2 l0 l1 l2 l3 l4 lx lu l5 cx
      go_wp2_with (go_at_call 101;refine HSUM.out.mono ?_;rintro e w3 ⟨rfl,rfl⟩)
      go_roundw
      case rel =>
        refine ⟨k+1,by omega,by go_num,?_,?_⟩
        · rw [HPT.out]
          simp only [Int.toNat_natCast]
          rw [← HSCE.out,← HPTE.out,← formC_set0 pt (pt+sc)]
          rw [Go.heap_alloc_old _ _ (by simpa using hB52)]
          exact heap_setCell_same _ _ _ _ _ _ H5A.out
        · exact grown_then (grown_then (grown_then_below HG.out HB2.out) (grown_set w2 B5 0 _)) (World.grownBy_alloc _ _ _)
      case measure=>simp [intOf];omega
    · have hk2:k=(countedL c s).length:=by omega
      have hpt:partTotal c s k=totalM c s:=by unfold partTotal totalM;rw [hk2,List.take_length]
      rw [hpt] at h5
      have H5:=hid h5
      clear hpt hk2 h5 h2 hg hBr
      have HG:=hid (grown_then HG.out (World.grownBy.refl wr (some B5)))
      obtain ⟨wo,hwo⟩:∃ wo:World,wo=wr:=⟨_,rfl⟩
      rw [← hwo] at H5 HG HBR
      go_wp2
      rw [← hwo]
      clear hwo HBR k0 k1 k2 k3 k4
      go_loopw [38] (fun i wr=>∃ (k:Nat) ,k≤c.done.length∧i = .int .i64 k∧wr.heap[B5]? = some (.cells (formC (totalM c s) (placesUpTo c s k)) 145 (0,0))∧w1.grownBy wr (some B5)) (fun i _=>c.done.length-(intOf i).toNat)
      case atStart=>exact ⟨0,Nat.zero_le _,rfl,by rw [placesUpTo_zero];exact H5.out,HG.out⟩
      case round =>
        clear H5 HG hsz2
        obtain ⟨k,hk,rfl,h5,hg⟩:=hrel
        have hBr:Below w.heap.size w wr:=HBL.out.grown hg HBL.out.size (fun q hq=>by cases hq;have:=Hb5.out;omega)
        have HG:=hid hg
        have HBR:=hid hBr
        by_cases hlt:k<c.done.length
        · have hm2:c.done[k]∈c.done:=by simp
          have hrl:=hV.len _ hm2
          have hrr:=hV.rows _ hm2
          obtain ⟨b,o,u,rfl,hcu,hru⟩:=hdc k hlt
          have cu:=(hBr.cell (p:=⟨b,o+k,none⟩) (World.block_lt_of_cell? w _ hcu)).trans hcu
          obtain ⟨q,qc,rfl,hq1,hq2,hqc⟩:=(ints_below hru hBr).open
          obtain ⟨b',o',rfl,hcs⟩:=hqc s (by omega)
          have hx:=hrr c.done[k][s] (by simp)
          have hgd:=getD_at c.done[k] s (by omega)
          have hsl:s<c.done[k].length:=by omega
          have hsl2:(s:Int)<c.done[k].length:=by omega
          unfold maxLen at hq2
          obtain ⟨x,hxe⟩:∃ x,x=c.done[k][s]:=⟨_,rfl⟩
          obtain ⟨rl,hrle⟩:∃ rl,rl=c.done[k].length:=⟨_,rfl⟩
          rw [← hxe] at hx hgd hcs
          rw [← hrle] at hsl hsl2 hq1 hrl cu
          have HGD:=hid hgd
          have hkl:(k:Int)<c.done.length:=by omega
          have H5:=hid h5
          clear h5 hg hBr hcu hru hqc hrr hm2 hxe hgd hrle hdc
          by_cases hx0:x=0
          · have HE:=hid (placesUpTo_none c s k hlt (by rw [HGD.out,hx0]))
            clear HGD hx
            subst hx0
            go_wp2
            go_roundw
            case rel=>exact ⟨k+1,by omega,by go_num,by rw [HE.out];exact H5.out,HG.out⟩
            case measure=>simp [intOf];omega
          · obtain ⟨pn,rfl⟩:∃ pn:Nat,x=pn:=⟨x.toNat,by omega⟩
            have hpl:pn<(placesUpTo c s k).length:=by rw [placesUpTo_length];omega
            have HE:=hid (placesUpTo_some c s k pn hlt HGD.out (by omega) (by omega) hpl)
            obtain ⟨hb1,hb2⟩:=placesUpTo_bd c s k pn hpl
            have cp5:wr.cell? ⟨B5,1+pn,none⟩=some (.int .i64 (placesUpTo c s k)[pn]):=by rw [cell_of_row _ _ _ _ _ _ H5.out,formC_p _ _ _ hpl]
            have fp5:=frozen_of_row _ _ (1+pn) _ _ H5.out
            obtain ⟨y,hy⟩:∃ y,y=(placesUpTo c s k)[pn]:=⟨_,rfl⟩
            rw [← hy] at hb1 hb2 cp5 HE
            have hpos:(0:Int)<pn:=by omega
            have hpn:pn≤60:=by omega
            clear HGD hx hpl hy hx0
            go_wp2
            go_roundw
            case rel=>exact ⟨k+1,by omega,by go_num,by rw [HE.out,← formC_setp];exact heap_setCell_same _ _ _ _ _ _ H5.out,grown_then HG.out (grown_set wr B5 (1+pn) _)⟩
            case measure=>simp [intOf];omega
        · have hk2:k=c.done.length:=by omega
          have hpl:placesUpTo c s k=placesM c s:=by unfold placesM;rw [hk2]
          rw [hpl] at h5
          have h4:wr.heap[B4]? = some (.cells formZ 145 (0,0)):=(hg.block B4 (lt_of_block H4.out) (by have:=Hb5.out;have:=Hb4.out;simp;omega)).trans H4.out
          have H5':=hid h5
          have H4':=hid h4
          have hfs:(formC (totalM c s) (placesM c s)).size=62:=by rw [formC_size];unfold placesM;rw [placesUpTo_length]
          have HFS:=hid (show (Tryz.prog.info? 145).map (·.size)=some (formC (totalM c s) (placesM c s)).size by rw [hfs];exact size136)
          have HFZ:=hid (show (formC (totalM c s) (placesM c s)).size=formZ.size by rw [hfs];rfl)
          have hlt4:=lt_of_block h4
          clear h5 h4 hg hBr hpl hfs hdc hk2
          go_wp2_with (first
            | ((with_reducible apply wpL_loadRow (hg:=H5'.out) (hu:=Tryz.underlying145) (hi:=HFS.out));rfl;rfl)
            | ((with_reducible apply wpL_storeRow (hg:=H4'.out) (hi:=HFS.out) (hsz:=HFZ.out) (h1:=formC_one _ _));rfl;rfl;intro w4 h4a hg4;have H4A:=hid h4a;have HG4:=hid hg4;clear h4a hg4))
          refine bodyPost_ret (results_cell_row rfl _ _ B4 145 _ (0,0) _ rfl H4A.out Tryz.underlying145 rfl HFS.out) rfl ⟨rfl,?_⟩
          exact HBR.out.grown HG4.out HBR.out.size (fun q hq=>by cases hq;have:=Hb4.out;omega)
end KL
end Go.Proofs
end
section
namespace Go.Proofs
open Go.RowKit Go.Lib Go.Sort
namespace KL

section
variable {P:Program}
theorem all_range_eqI:∀ (xs ys:List Int),xs.length=ys.length→((List.range xs.length).all fun i=>xs.getD i 0 == ys.getD i 0)=decide (xs=ys)
  | [],[],_=>rfl
  | x::xs,y::ys,h=>by
    have ih:=all_range_eqI xs ys (by simpa using h)
    rw [List.length_cons,List.range_succ_eq_map,List.all_cons,List.all_map]
    simp only [List.getD_cons_zero,Function.comp_def,List.getD_cons_succ,ih]
    by_cases hxy:x=y
    · subst hxy;simp
    · simp [hxy]
  | [],_::_,h=>by simp at h
  | _::_,[],h=>by simp at h

theorem eqItems_ints(w:World)(d e:Nat)(he:P.underlying e=some (.int .i64))(xs ys:List Int)(n:Nat)(hx:xs.length=n)(hy:ys.length=n) :
    ∀ is:List Nat,(∀ i∈is,i<n)→(Op.eqItems (d+1) e 1 (xs.map (Value.int .i64)).toArray (ys.map (Value.int .i64)).toArray is).run P w = .ok (is.all fun i=>xs.getD i 0 == ys.getD i 0) w
  | [],_=>by simp [Op.eqItems]
  | i::is,h=>by
    have hi:=h i (by simp)
    have ih:=eqItems_ints w d e he xs ys n hx hy is (fun j hj=>h j (by simp [hj]))
    have px:(part e (xs.map (Value.int .i64)).toArray (i*1)).run P w = .ok (.int .i64 (xs.getD i 0)) w:=by
      simp [part,isAgg,run_underlying he,List.getD,List.getElem?_eq_getElem (show i<xs.length by omega)]
    have py:(part e (ys.map (Value.int .i64)).toArray (i*1)).run P w = .ok (.int .i64 (ys.getD i 0)) w:=by
      simp [part,isAgg,run_underlying he,List.getD,List.getElem?_eq_getElem (show i<ys.length by omega)]
    have pe:=run_equalIn_int (P:=P) w d e .i64 .i64 (xs.getD i 0) (ys.getD i 0) he
    simp only [Op.eqItems,Sem.run_bind,px,py,pe,Result.andThen_ok,List.all_cons]
    cases hb:(xs.getD i 0 == ys.getD i 0)
    · simp
    · simp only [Bool.not_true,Bool.false_eq_true,if_false,Bool.true_and]
      exact ih

theorem run_equalIn_ints(w:World)(d:Nat){t e:TypeId}{n:Nat}{i:TypeInfo}(hu:P.underlying t=some (.array n e))(hi:P.info? e=some i)(hc:P.cellsOf e=1)(he:P.underlying e=some (.int .i64))(xs ys:List Int)(hx:xs.length=n)(hy:ys.length=n) :
    (Op.equalIn (d+2) t (.agg (xs.map (Value.int .i64)).toArray) (.agg (ys.map (Value.int .i64)).toArray)).run P w = .ok (decide (xs=ys)) w:=by
  rw [run_equalIn_array w (d+1) _ _ hu hi,hc,eqItems_ints w d e he xs ys n hx hy _ (fun i hi=>List.mem_range.1 hi),← hx,all_range_eqI xs ys (hx.trans hy.symm)]
end

theorem info3some:∃ i,Tryz.prog.info? 3=some i:=by
  have:=info3
  cases h:Tryz.prog.info? 3 with
  | none=>simp [h] at this
  | some i=>exact ⟨i,rfl⟩

theorem cellsOf3:Tryz.prog.cellsOf 3=1:=by kernel_rfl

theorem eq_places(w:World)(p1 p2:List Int)(h1:p1.length=61)(h2:p2.length=61)(d:Nat) :
    (Op.equalIn (d+2) 143 (.agg (p1.map (Value.int .i64)).toArray) (.agg (p2.map (Value.int .i64)).toArray)).run Tryz.prog w = .ok (decide (p1=p2)) w:=by
  obtain ⟨i,hi⟩:=info3some
  exact run_equalIn_ints w d Tryz.underlying143 hi cellsOf3 Tryz.underlying3 p1 p2 h1 h2

theorem extract_form(t:Int)(p:List Int)(h:p.length=61):(formC t p).extract 1 62=(p.map (Value.int .i64)).toArray:=by
  unfold formC
  apply Array.ext'
  simp [List.take_of_length_le,h]

theorem pa3(w:World)(t:Int)(p:List Int):(part 3 (formC t p) 0).run Tryz.prog w = .ok (.int .i64 t) w:=by
  simp [part,isAgg,run_underlying Tryz.underlying3,formC_0]
theorem pb134(w:World)(t:Int)(p:List Int)(hp:p.length=61):(part 143 (formC t p) 1).run Tryz.prog w = .ok (.agg (p.map (Value.int .i64)).toArray) w:=by
  simp only [part,Sem.run_bind,Tryz.isAgg143 w,Result.andThen_ok,if_true,Tryz.sizeOf143 w,Sem.run_pure]
  rw [extract_form t p hp]

theorem eq_fields(w : World)(d : Nat)(t1 t2 : Int)(p1 p2 : List Int)(h1 : p1.length = 61)(h2 : p2.length = 61)(f g : Field)(hf1 : f.name ≠ "_")(hf2 : f.type = 3)(hf3 : f.offset = 0)(hg1 : g.name ≠ "_")(hg2 : g.type = 143)(hg3 : g.offset = 1) :
    (Op.eqFields (d+2) (formC t1 p1) (formC t2 p2) [f,g]).run Tryz.prog w = .ok (decide (t1=t2∧p1=p2)) w:=by
  have e1:(Op.equalIn (d+2) 3 (.int .i64 t1) (.int .i64 t2)).run Tryz.prog w = .ok (t1 == t2) w:=run_equalIn_int (P:=Tryz.prog) w (d+1) 3 .i64 .i64 t1 t2 Tryz.underlying3
  have e2:=eq_places w p1 p2 h1 h2 d
  rw [Op.eqFields,if_pos hf1,hf2,hf3,Sem.run_bind,pa3,Result.andThen_ok,Sem.run_bind,pa3,Result.andThen_ok,Sem.run_bind,e1,Result.andThen_ok]
  by_cases ht:t1=t2
  · subst ht
    rw [beq_self_eq_true,if_neg (by decide),Op.eqFields,if_pos hg1,hg2,hg3,Sem.run_bind,pb134 w t1 p1 h1,Result.andThen_ok,Sem.run_bind,pb134 w t1 p2 h2,Result.andThen_ok,Sem.run_bind,e2,Result.andThen_ok]
    by_cases hp:p1=p2
    · rw [decide_eq_true hp,decide_eq_true (p:=t1=t1∧p1=p2) ⟨rfl,hp⟩,if_neg (by decide),Op.eqFields,Sem.run_pure]
    · rw [decide_eq_false hp,decide_eq_false (fun h=>hp h.2),if_pos (by decide),Sem.run_pure]
  · have hb:(t1 == t2)=false:=by simp [ht]
    rw [hb,decide_eq_false (fun h=>ht h.1),if_pos (by decide),Sem.run_pure]

theorem eq_form(w:World)(d:Nat)(t1 t2:Int)(p1 p2:List Int)(h1:p1.length=61)(h2:p2.length=61) :
    (Op.equalIn (d+3) 145 (.agg (formC t1 p1)) (.agg (formC t2 p2))).run Tryz.prog w = .ok (decide (t1=t2∧p1=p2)) w:=by
  have hf:Tryz.prog.underlying 145=some (.struct (Tryz.prog.fieldsOf 145)):=by simp only [Program.fieldsOf,Tryz.underlying145]
  rw [run_equalIn_struct (P:=Tryz.prog) w (d+2) 145 _ _ hf Tryz.stoodInHeld145]
  simp only [Program.fieldsOf,Tryz.underlying145]
  exact eq_fields w d t1 t2 p1 p2 h1 h2 _ _ (by decide) rfl rfl (by decide) rfl rfl

section
variable {ops:Array Oper} {rest:List Oper} {dst:Option Tmp} {ty:TypeId} {pos:String} {af:Array Edge} {a:Act} {w:World} {Q:Exit→Act→World→Prop}
theorem wpL_eqForm{x y:Operand}{t1 t2:Int}{p1 p2:List Int}{t':TypeId}{b:Bool}(h1:p1.length=61)(h2:p2.length=61)(hb:decide (t1=t2∧p1=p2)=b)
    (hx:a.eval x = .agg (formC t1 p1)) (hy:a.eval y = .agg (formC t2 p2)) (h:wpList Tryz.prog ops Q rest (a.put dst (.bool b)) w) :
    wpList Tryz.prog ops Q ({ dst:=dst,op := .binOp .eql 145 x y t',type:=ty,pos:=pos,after:=af,guard:=none }::rest) a w:=by
  refine wpList_plain rfl fun K hK => ?_
  have hg:=run_eqGuard_agg (P:=Tryz.prog) w .eql 145 x y (formC t1 p1) (formC t2 p2) Tryz.eqGuardType145
  have he:=run_eql_struct (P:=Tryz.prog) w 145 (formC t1 p1) (formC t2 p2)
  rw [eq_form w 9997 t1 t2 p1 p2 h1 h2,hb] at he
  unfold Oper.wp
  simp only [execOp,hx,hy,Sem.run_bind,hg,he,Result.andThen_ok]
  exact hK _ _ h

theorem wpL_eqPlaces{x y:Operand}{p1 p2:List Int}{t':TypeId}{b:Bool}(h1:p1.length=61)(h2:p2.length=61)(hb:decide (p1=p2)=b)
    (hx:a.eval x = .agg (p1.map (Value.int .i64)).toArray) (hy:a.eval y = .agg (p2.map (Value.int .i64)).toArray) (h:wpList Tryz.prog ops Q rest (a.put dst (.bool b)) w) :
    wpList Tryz.prog ops Q ({ dst:=dst,op := .binOp .eql 143 x y t',type:=ty,pos:=pos,after:=af,guard:=none }::rest) a w:=by
  refine wpList_plain rfl fun K hK => ?_
  have hg:=run_eqGuard_agg (P:=Tryz.prog) w .eql 143 x y (p1.map (Value.int .i64)).toArray (p2.map (Value.int .i64)).toArray Tryz.eqGuardType143
  have he:=run_eql_struct (P:=Tryz.prog) w 143 (p1.map (Value.int .i64)).toArray (p2.map (Value.int .i64)).toArray
  rw [eq_places w p1 p2 h1 h2 9998,hb] at he
  unfold Oper.wp
  simp only [execOp,hx,hy,Sem.run_bind,hg,he,Result.andThen_ok]
  exact hK _ _ h

theorem wpL_loadPlaces{x:Operand}{g:Nat}{t:Int}{p:List Int}{e:TypeId}(hg:w.heap[g]? = some (.cells (formC t p) e (0,0)))(hp:p.length=61)
    (hx:a.eval x = .pointer (some ⟨g,1,none⟩)) (h:wpList Tryz.prog ops Q rest (a.put dst (.agg (p.map (Value.int .i64)).toArray)) w) :
    wpList Tryz.prog ops Q ({ dst:=dst,op := .load 143 x,type:=ty,pos:=pos,after:=af,guard:=none }::rest) a w:=by
  have hr:=World.rangeAt_of_block hg 1 61
  rw [show 1+61=62 from rfl,extract_form t p hp] at hr
  refine wpList_load_mid rfl 143 x rfl g 1 hx _ _ hr Tryz.underlying143 rfl ?_ ?_
  · simp only [List.length_map,hp];kernel_rfl
  · simpa using h
end

def lexFrom(p1 p2:List Int):Nat→Nat→Bool
  | 0,_=>false
  | f+1,i=>if p1.getD i 0=p2.getD i 0 then lexFrom p1 p2 f (i+1) else decide (p2.getD i 0<p1.getD i 0)
def betterF(t1 t2:Int)(p1 p2:List Int):Bool:=if t1=t2 then lexFrom p1 p2 60 1 else decide (t2<t1)

theorem lexFrom_same(p:List Int):∀ f i,lexFrom p p f i=false
  | 0,_=>rfl
  | f+1,i=>by rw [lexFrom,if_pos rfl];exact lexFrom_same p f (i+1)

set_option maxHeartbeats 2000000 in
set_option maxRecDepth 1000000 in
theorem better_any(t1 t2:Int)(p1 p2:List Int)(h1:p1.length=61)(h2:p2.length=61)(w:World) :
    Calls Tryz.prog 111 #[.agg (formC t1 p1),.agg (formC t2 p2)] w (Ret (.bool (betterF t1 t2 p1 p2)) w):=by
  have HW:=hid (((Below.refl w.heap.size w).alloc (Nat.le_refl _) (.cells (formC t1 p1) 145)).alloc (by simp) (.cells (formC t2 p2) 145))
  obtain ⟨W0,hW0⟩:∃ W0,W0=(w.alloc (.cells (formC t1 p1) 145)).alloc (.cells (formC t2 p2) 145):=⟨_,rfl⟩
  have g1:W0.heap[w.heap.size]? = some (.cells (formC t1 p1) 145 (0,0)):=by
    rw [hW0,Go.heap_alloc_old _ _ (by simp)];exact heap_alloc_new w _
  have g2:W0.heap[w.heap.size+1]? = some (.cells (formC t2 p2) 145 (0,0)):=by
    rw [hW0];have:=heap_alloc_new (w.alloc (.cells (formC t1 p1) 145)) (.cells (formC t2 p2) 145);simpa using this
  rw [← hW0] at HW
  have HW0:=hid hW0
  have c1:W0.cell? ⟨w.heap.size,0,none⟩=some (.int .i64 t1):=by rw [cell_of_row _ _ _ _ _ _ g1,formC_0]
  have c2:W0.cell? ⟨w.heap.size+1,0,none⟩=some (.int .i64 t2):=by rw [cell_of_row _ _ _ _ _ _ g2,formC_0]
  have cp1:∀ i,i<61→W0.cell? ⟨w.heap.size,1+i,none⟩=some (.int .i64 (p1.getD i 0)):=fun i hi=>by rw [cell_of_row _ _ _ _ _ _ g1,formC_p _ _ _ (by omega),getD_at _ _ (by omega)]
  have cp2:∀ i,i<61→W0.cell? ⟨w.heap.size+1,1+i,none⟩=some (.int .i64 (p2.getD i 0)):=fun i hi=>by rw [cell_of_row _ _ _ _ _ _ g2,formC_p _ _ _ (by omega),getD_at _ _ (by omega)]
  have G1:=hid g1
  have G2:=hid g2
  have CP1:=hid cp1
  have CP2:=hid cp2
  have H1:=hid h1
  have H2:=hid h2
  have HS:=hid (show (Tryz.prog.info? 145).map (·.size)=some (formC t1 p1).size by rw [formC_size,h1];exact size136)
  have HS2:=hid (show (Tryz.prog.info? 145).map (·.size)=some (formC t2 p2).size by rw [formC_size,h2];exact size136)
  have L1:=hid (World.block_lt_of_cell? _ _ c1)
  clear hW0 g1 g2 cp1 cp2 h1 h2
  go_enter Tryz.func111,Tryz.ntmps111
  go_upto_region 1 with (fail)
  rw [← HW0.out]
  by_cases ht:t1=t2
  · have htt:(t1 != t2)=false:=by simp [ht]
    by_cases hp:p1=p2
    · have HE:=hid (show decide (t1=t2∧p1=p2)=true by simp [ht,hp])
      have HEP:=hid (show decide (p1=p2)=true by simp [hp])
      have hlt:¬ t2<t1:=by omega
      have HR:=hid (show betterF t1 t2 p1 p2=false by unfold betterF;rw [if_pos ht,hp];exact lexFrom_same _ _ _)
      clear ht hp htt
      go_wp2_with (first
        | ((with_reducible apply wpL_eqForm (h1:=H1.out) (h2:=H2.out) (hb:=HE.out));rfl;rfl)
        | ((with_reducible apply wpL_eqPlaces (h1:=H1.out) (h2:=H2.out) (hb:=HEP.out));rfl;rfl)
        | ((with_reducible apply wpL_loadPlaces (hg:=G1.out) (hp:=H1.out));rfl)
        | ((with_reducible apply wpL_loadPlaces (hg:=G2.out) (hp:=H2.out));rfl)
        | ((with_reducible apply wpL_loadRow (hg:=G1.out) (hu:=Tryz.underlying145) (hi:=HS.out));rfl;rfl)
        | ((with_reducible apply wpL_loadRow (hg:=G2.out) (hu:=Tryz.underlying145) (hi:=HS2.out));rfl;rfl))
      go_ret
      exact ⟨ret_bool HR.out.symm,HW.out⟩
    · have HE:=hid (show decide (t1=t2∧p1=p2)=false by simp [hp])
      have HEP:=hid (show decide (p1=p2)=false by simp [hp])
      have HR:=hid (show betterF t1 t2 p1 p2=lexFrom p1 p2 60 1 by unfold betterF;rw [if_pos ht])
      clear ht hp
      go_wp2_with (first
        | ((with_reducible apply wpL_eqForm (h1:=H1.out) (h2:=H2.out) (hb:=HE.out));rfl;rfl)
        | ((with_reducible apply wpL_eqPlaces (h1:=H1.out) (h2:=H2.out) (hb:=HEP.out));rfl;rfl)
        | ((with_reducible apply wpL_loadPlaces (hg:=G1.out) (hp:=H1.out));rfl)
        | ((with_reducible apply wpL_loadPlaces (hg:=G2.out) (hp:=H2.out));rfl)
        | ((with_reducible apply wpL_loadRow (hg:=G1.out) (hu:=Tryz.underlying145) (hi:=HS.out));rfl;rfl)
        | ((with_reducible apply wpL_loadRow (hg:=G2.out) (hu:=Tryz.underlying145) (hi:=HS2.out));rfl;rfl))
      go_loopw [5] (fun i wr=>∃ (k:Nat),1≤k∧k≤61∧i = .int .i64 k∧Below W0.heap.size W0 wr∧lexFrom p1 p2 60 1=lexFrom p1 p2 (61-k) k) (fun i _=>61-(intOf i).toNat)
      case atStart=>exact ⟨1,by omega,by omega,rfl,Below.refl _ _,rfl⟩
      case round =>
        clear c1 c2
        obtain ⟨k,hk1,hk2,rfl,hB,hL⟩:=hrel
        have HB:=hid hB
        have HL:=hid hL
        clear hL
        by_cases hlt:k≤60
        · have d1:=((bcell hB).1 w.heap.size (1+k) (by have:=L1.out;exact this)).trans (CP1.out k (by omega))
          have d2:=((bcell hB).1 (w.heap.size+1) (1+k) (by have:=lt_of_block G2.out;exact this)).trans (CP2.out k (by omega))
          have HN:=hid (show lexFrom p1 p2 (61-k) k=if p1.getD k 0=p2.getD k 0 then lexFrom p1 p2 (61-(k+1)) (k+1) else decide (p2.getD k 0<p1.getD k 0) by rw [show 61-k=(61-(k+1))+1 by omega,lexFrom])
          obtain ⟨x,hx⟩:∃ x,x=p1.getD k 0:=⟨_,rfl⟩
          obtain ⟨y,hy⟩:∃ y,y=p2.getD k 0:=⟨_,rfl⟩
          rw [← hx] at d1 HN
          rw [← hy] at d2 HN
          have l1:=later_cell d1
          have l2:=later_cell d2
          have i61:(k:Int)<61:=by omega
          clear hx hy hB
          by_cases hxy:x=y
          · have hb1:(x != y)=false:=by simp [hxy]
            have HXY:=hid hxy
            clear hxy
            go_wp2
            refine wp_region_qL (by kernel_rfl) (by kernel_rfl) ?_
            repeat (go_big_quiet_step (fail))
            refine wpQuiet_nil (later_all fun w2 hb2 => ?_)
            go_wp2
            go_roundw
            case rel=>exact ⟨k+1,by omega,by omega,by go_num,HB.out.trans (hb2.mono HB.out.size),by rw [HL.out,HN.out,if_pos HXY.out]⟩
            case measure=>simp [intOf];omega
          · have hb1:(x != y)=true:=by simp [hxy]
            have HXY:=hid hxy
            clear hxy
            go_wp2
            refine wp_region_qL (by kernel_rfl) (by kernel_rfl) ?_
            repeat (go_big_quiet_step (fail))
            refine wpQuiet_nil (later_all fun w2 hb2 => ?_)
            have d3:=((bcell hb2).1 w.heap.size (1+k) (World.block_lt_of_cell? _ _ d1)).trans d1
            have d4:=((bcell hb2).1 (w.heap.size+1) (1+k) (World.block_lt_of_cell? _ _ d2)).trans d2
            have l3:=later_cell d3
            have l4:=later_cell d4
            go_wp2
            refine wp_region_qL (by kernel_rfl) (by kernel_rfl) ?_
            repeat (go_big_quiet_step (fail))
            refine wpQuiet_nil (later_all fun w3 hb3 => ?_)
            go_wp2
            go_ret
            refine ⟨ret_bool ?_,HW.out.trans ((HB.out.trans (hb2.mono HB.out.size)).trans (hb3.mono (Nat.le_trans HB.out.size hb2.size)) |>.mono HW.out.size)⟩
            rw [HR.out,HL.out,HN.out,if_neg HXY.out]
        · have hk:k=61:=by omega
          have HE2:=hid (show lexFrom p1 p2 60 1=false by rw [HL.out,hk];rfl)
          clear hk
          go_wp2
          go_ret
          exact ⟨ret_bool (HR.out.trans HE2.out).symm,HW.out.trans (HB.out.mono HW.out.size)⟩
  · have htt:(t1 != t2)=true:=by simp [ht]
    have HE:=hid (show decide (t1=t2∧p1=p2)=false by simp [ht])
    have HEP:=hid (show decide (p1=p1)=true by simp)
    have HR:=hid (show betterF t1 t2 p1 p2=decide (t2<t1) by unfold betterF;rw [if_neg ht])
    clear ht
    go_wp2_with (first
      | ((with_reducible apply wpL_eqForm (h1:=H1.out) (h2:=H2.out) (hb:=HE.out));rfl;rfl)
      | ((with_reducible apply wpL_eqPlaces (h1:=H1.out) (h2:=H2.out) (hb:=HEP.out));rfl;rfl)
      | ((with_reducible apply wpL_loadPlaces (hg:=G1.out) (hp:=H1.out));rfl)
      | ((with_reducible apply wpL_loadPlaces (hg:=G2.out) (hp:=H2.out));rfl)
      | ((with_reducible apply wpL_loadRow (hg:=G1.out) (hu:=Tryz.underlying145) (hi:=HS.out));rfl;rfl)
      | ((with_reducible apply wpL_loadRow (hg:=G2.out) (hu:=Tryz.underlying145) (hi:=HS2.out));rfl;rfl))
    go_ret
    exact ⟨ret_bool HR.out.symm,HW.out⟩
end KL
end Go.Proofs
end
section
namespace Go.Proofs
open Go.RowKit Go.Lib Go.Sort Go.Shelf
namespace KL

attribute [local go_sem] Oper.semAt_some

def oth(skier:Nat)(k:Nat):List Nat:=(List.range k).filter (fun s=>decide (s≠skier))

theorem oth_succ_same(skier:Nat):oth skier (skier+1)=oth skier skier:=by simp [oth,List.range_succ]
theorem oth_succ_other(skier k:Nat)(h:k≠skier):oth skier (k+1)=oth skier k++[k]:=by simp [oth,List.range_succ,h]
theorem oth_prefix(skier:Nat){k m:Nat}(h:k≤m):oth skier k <+: oth skier m:=by
  obtain ⟨d,rfl⟩:=Nat.exists_eq_add_of_le h
  unfold oth
  rw [List.range_add,List.filter_append]
  exact List.prefix_append _ _
theorem oth_mem{skier k x:Nat}(h:x∈oth skier k):x<k∧x≠skier:=by simpa [oth] using h
theorem oth_lt(skier:Nat){k m:Nat}(h:k<m)(hk:k≠skier):(oth skier k).length<(oth skier m).length:=by
  have:=(oth_prefix skier (Nat.succ_le_of_lt h)).length_le
  rw [Nat.succ_eq_add_one,oth_succ_other skier k hk,List.length_append,List.length_singleton] at this
  omega

structure KpD (n₀ b:Nat) (A B:World):Prop where
  bel:Below n₀ A B
  one:B.heap[b]? = A.heap[b]?
  two:B.heap[b+1]? = A.heap[b+1]?

theorem KpD.refl(n₀ b:Nat)(A:World):KpD n₀ b A A:=⟨Below.refl _ _,rfl,rfl⟩
theorem KpD.trans{n₀ b:Nat}{A B C:World}(h:KpD n₀ b A B)(k:KpD n₀ b B C):KpD n₀ b A C:=⟨h.bel.trans k.bel,k.one.trans h.one,k.two.trans h.two⟩
theorem KpD.put{n₀ b:Nat}{w:World}(hn:n₀≤w.heap.size)(hb:b+1<w.heap.size)(W:World)(l:Nat)(o o':Obj)(hl:w.heap.size≤l)(h:W.heap[l]? = some o)(h1:o.isCells=false)(h2:o.isWalk=false):KpD n₀ b W (W.putObj l o') :=
  ⟨belowK_b hn W l o o' hl h h1 h2,(grownBy_putObj' W l o').block b (by have:=lt_of_block h;omega) (by simp;omega),(grownBy_putObj' W l o').block (b+1) (by have:=lt_of_block h;omega) (by simp;omega)⟩
theorem KpD.of_below{n₀ b:Nat}{A B:World}(h:Below A.heap.size A B)(hn:n₀≤A.heap.size)(hb:b+1<A.heap.size):KpD n₀ b A B :=
  ⟨h.mono hn,h.block _ (by omega),h.block _ hb⟩

set_option maxRecDepth 1000000 in
set_option maxHeartbeats 2000000 in
theorem others_iter(c:Cup)(hV:Valid c)(w0:World)(vp vd:Value)(hc:CupAt w0 (.agg #[.int .i64 c.sk,.int .i64 c.ra,.int .i64 c.be,vp,vd]) c)(n l b:Nat)(hn:1≤n)(skier:Nat)(J Jx:List Nat→World→Prop)
    (hY:∀ pre (x:Nat) W,J pre W→pre.length<(oth skier c.sk.toNat).length→YieldAt Fence.wide (n-1) Tryz.prog l #[.int .i64 x,.agg (formM c x)] W fun e W' =>
      (e = .returned (.bool true)∧J (pre++[x]) W'∧KpD w0.heap.size b W W')∨(e = .returned (.bool false)∧Jx (pre++[x]) W'))
    (W:World) (hJ:AbidesFrom W.heap.size J) (hB:Below w0.heap.size w0 W) (h1:W.heap[b]? = some (deskBox c vp vd)) (h2:W.heap[b+1]? = some (.cells #[.int .i64 skier] 3)) (h0:J [] W) :
    CallsIn Fence.wide n Tryz.prog 168 #[.func (.yield l) #[] #[],.pointer (some ⟨b,0,none⟩),.pointer (some ⟨b+1,0,none⟩)] W fun e W'=>(∃ v,e = .returned v) ∧
      ((∃ ys,ys=oth skier c.sk.toNat∧J ys W')∨(∃ pre,pre <+: oth skier c.sk.toNat∧Jx pre W')):=by
  have HJ:=hid hJ
  have HY:=hid hY
  have HB:=hid hB
  have H1:=hid h1
  have H2:=hid h2
  have HC:=hid hc
  have HJ0:=hid h0
  have hsk:=hV.sk2
  have hsk1:=hV.sk1
  clear hJ hY hB h0 hc
  obtain ⟨k0,k1,k2,k3,k4⟩:=desk_cells h1
  clear h1 h2
  refine callsIn_of_wp Tryz.func168 rfl trivial ?_ rfl
  simp only [Tryz.ntmps168,List.size_toArray,List.length_cons,List.length_nil,Nat.reduceAdd,Nat.reduceSub,Array.replicate_succ,Array.replicate_zero,List.push_toArray,List.append_toArray,List.nil_append,List.cons_append]
  gi_wp2
  clear k0 k1 k2 k3 k4
  gi_loopw [8] (fun i wr=>∃ k:Nat,(k:Int)≤c.sk∧i = .int .i64 k∧J (oth skier k) wr∧KpD w0.heap.size b W wr)
    (fun i _=>c.sk.toNat-(intOf i).toNat)
  case atStart=>exact ⟨0,by omega,rfl,HJ0.out,KpD.refl _ _ _⟩
  case round =>
    obtain ⟨k,hk,rfl,hJk,hK⟩:=hrel
    have HJK:=hid hJk
    have HK:=hid hK
    have hd1:wr.heap[b]? = some (deskBox c vp vd):=hK.one.trans H1.out
    have hd2:wr.heap[b+1]? = some (.cells #[.int .i64 skier] 3):=hK.two.trans H2.out
    have hlt1:=lt_of_block hd2
    obtain ⟨k0,k1,k2,k3,k4⟩:=desk_cells hd1
    have ks:wr.cell? ⟨b+1,0,none⟩=some (.int .i64 skier):=by rw [cell_of_row _ _ _ _ _ _ hd2];rfl
    have HBR:=hid (HB.out.trans hK.bel)
    clear hJk hK hd1 hd2
    by_cases hlt:(k:Int)<c.sk
    · by_cases hks:k=skier
      · subst hks
        have HE:=hid (oth_succ_same k)
        have hk2:(k:Int)<12:=by omega
        gi_wp2
        refine ⟨trivial,?_⟩
        gi_wp2
        refine ⟨fun _ h=>(by cases h),?_⟩
        gi_wp2
        go_roundw
        case rel=>exact ⟨k+1,by omega,by go_num,by rw [HE.out];exact HJK.out,HK.out⟩
        case measure=>simp [intOf];omega
      · have HE:=hid (oth_succ_other skier k hks)
        have hne:((k:Int) != skier)=true:=by simp;omega
        have HF:=hid (form_any c hV _ k wr (HC.out.below HBR.out) hlt)
        have HL:=hid (oth_lt skier (show k<c.sk.toNat by omega) hks)
        have HP:=hid (oth_prefix skier (show k+1≤c.sk.toNat by omega))
        have hk2:(k:Int)<12:=by omega
        have hbw:b+1<W.heap.size:=lt_of_block H2.out
        have HWR:=hid (fun w1 (hb1:Below wr.heap.size wr w1)=>HJ.out _ wr w1 none HJK.out (grown_of_below hb1 none) (fun r e=>by cases e))
        have HKD:=hid (fun w1 (hb1:Below wr.heap.size wr w1)=>HK.out.trans (KpD.of_below hb1 HBR.out.size hlt1))
        gi_wp2_with (first
          | (refine ⟨trivial,?_⟩;gi_at_call 106;refine (callsIn_wide.2 HF.out).mono ?_;clear HF;rintro e w1 ⟨rfl,hb1⟩;have HB1:=hid hb1;clear hb1;obtain ⟨fn,tmps,assign,body,hy,hR⟩:=HY.out _ k w1 (HWR.out w1 HB1.out) HL.out)
          | (refine hR.mono ?_;clear hR;rintro e w3 (⟨rfl,hJ3,hK3⟩ | ⟨rfl,hx⟩)))
        · go_roundw
          case rel=>exact ⟨k+1,by omega,by go_num,by rw [HE.out];exact hJ3,(HKD.out w1 HB1.out).trans hK3⟩
          case measure=>simp [intOf];omega
        · refine bodyPost_ret (results_none rfl _ _ _) rfl ?_
          exact ⟨⟨_,rfl⟩,.inr ⟨oth skier k++[k],HE.out ▸ HP.out,hx⟩⟩
    · have HE:=hid (show k=c.sk.toNat by omega)
      gi_wp2
      go_end0
      exact ⟨⟨_,rfl⟩,.inl (HE.out ▸ HJK.out)⟩

theorem others_any(c:Cup)(vp vd:Value)(skier:Nat)(w:World)(hp:Ints w vp c.pts)(hd:Rows w vd c.done) :
    Calls Tryz.prog 131 #[.agg #[.int .i64 c.sk,.int .i64 c.ra,.int .i64 c.be,vp,vd],.int .i64 skier] w fun e w' =>
      e = .returned (.func (.func 168) #[] #[.pointer (some ⟨w.heap.size,0,none⟩),.pointer (some ⟨w.heap.size+1,0,none⟩)])∧w'=(w.alloc (deskBox c vp vd)).alloc (.cells #[.int .i64 skier] 3):=by
  obtain ⟨pd,cd,rfl,hd2,hd3,_⟩:=hd.open
  obtain ⟨pp,cp,rfl,hp2,hp3,_⟩:=hp.open
  unfold maxLen at hd3 hp3
  go_enter Tryz.func131,Tryz.ntmps131
  go_wp2
  go_ret
  exact ⟨rfl,rfl⟩

theorem others_stops(c:Cup)(hV:Valid c)(w0:World)(vp vd:Value)(hc:CupAt w0 (.agg #[.int .i64 c.sk,.int .i64 c.ra,.int .i64 c.be,vp,vd]) c)(n b:Nat)(hn:1≤n)(skier:Nat)(w:World)
    (hB:Below w0.heap.size w0 w) (h1:w.heap[b]? = some (deskBox c vp vd)) (h2:w.heap[b+1]? = some (.cells #[.int .i64 skier] 3)) :
    SeqStopsK Fence.wide n Tryz.prog 168 #[.pointer (some ⟨b,0,none⟩),.pointer (some ⟨b+1,0,none⟩)] (fun x:Nat => #[Value.int .i64 x,.agg (formM c x)]) (KpD w0.heap.size b) (fun ys=>ys=oth skier c.sk.toNat) (fun pre=>pre <+: oth skier c.sk.toNat) (oth skier c.sk.toNat).length w :=
  fun l J Jx W hW hJ _ hY h0=>others_iter c hV w0 vp vd hc n l b hn skier J Jx hY W hJ (hB.trans (hW.mono hB.size)) ((hW.block b (lt_of_block h1)).trans h1) ((hW.block (b+1) (lt_of_block h2)).trans h2) h0
end KL
end Go.Proofs
end
section
namespace Go.Proofs
open Go.RowKit Go.Lib Go.Sort Go.Shelf
namespace KL

section
variable {F:Fence} {n:Nat} {P:Program} {ops:Array Oper} {rest:List Oper} {dst:Option Tmp} {ty:TypeId} {pos:String} {af:Array Edge} {a:Act} {w:World} {Q:Exit→Act→World→Prop}

theorem wpIL_alloc{t:TypeId}{z:Value}(Z:Array Value)(hz:∀ w,(zeroValue t).run P w = .ok z w)(hZ:z.cells=Z)
    (h:wpListIn F n P ops Q rest (a.put dst (.pointer (some ⟨w.heap.size,0,none⟩))) (w.alloc (.cells Z t))) :
    wpListIn F n P ops Q ({ dst:=dst,op := .alloc t,type:=ty,pos:=pos,after:=af,guard:=none }::rest) a w:=by
  subst hZ
  refine wpListIn_plain rfl fun K hK => ?_
  unfold Oper.wpIn
  refine ⟨by simp [Oper.about],?_⟩
  rw [Oper.semAt_plain F _ _ (by intro c hc';cases hc')]
  simp only [execOp,Instr.alloc,Sem.run_bind,hz,Result.andThen_ok,newVar,newRow,newObj]
  exact hK _ _ h

theorem wpIL_loadRow{t e:TypeId}{x:Operand}{g:Nat}{cs:Array Value}{d:TypeDesc}(hg:w.heap[g]? = some (.cells cs e (0,0)))
    (hu:P.underlying t=some d) (hd:(match d with | .struct _ | .array _ _=>true | _=>false)=true) (hi:(P.info? t).map (·.size)=some cs.size)
    (hx:a.eval x = .pointer (some ⟨g,0,none⟩))
    (h:wpListIn F n P ops Q rest (a.put dst (.agg cs)) w) :
    wpListIn F n P ops Q ({ dst:=dst,op := .load t x,type:=ty,pos:=pos,after:=af,guard:=none }::rest) a w:=by
  refine wpListIn_plain rfl fun K hK => ?_
  unfold Oper.wpIn
  refine ⟨by simp [Oper.about],?_⟩
  rw [Oper.semAt_plain F _ _ (by intro c hc';cases hc')]
  simp only [execOp,hx,Instr.loadAt,Instr.sureAddr,Sem.run_bind,Sem.run_pure,Result.andThen_ok,run_loadVar_row w g e t cs (0,0) d hg hu hd hi]
  exact hK _ _ h

theorem wpIL_storeRow{t e:TypeId}{x y:Operand}{g:Nat}{cs cells:Array Value}(hg:w.heap[g]? = some (.cells cs e (0,0)))(hi:(P.info? t).map (·.size)=some cells.size)
    (hsz:cells.size=cs.size) (h1:cells.all (·.oneCell')=true) (hx:a.eval x = .pointer (some ⟨g,0,none⟩)) (hy:a.eval y = .agg cells)
    (h:∀ w',w'.heap[g]? = some (.cells cells e (0,0))→w.grownBy w' (some g)→wpListIn F n P ops Q rest (a.put dst undef) w') :
    wpListIn F n P ops Q ({ dst:=dst,op := .store t x y,type:=ty,pos:=pos,after:=af,guard:=none }::rest) a w:=by
  refine wpListIn_plain rfl fun K hK => ?_
  unfold Oper.wpIn
  refine ⟨by simp [Oper.about],?_⟩
  rw [Oper.semAt_plain F _ _ (by intro c hc';cases hc')]
  have ht:w.there g 0 cells.size:=fun j hj=>by
    rw [Nat.zero_add,cell_of_row w g j cs e (0,0) hg,frozen_of_row w g j cs e hg]
    refine ⟨?_,rfl⟩
    rw [Array.getElem?_eq_getElem (by omega)]
    rfl
  simp only [execOp,hx,hy,Instr.storeAt,Instr.sureAddr,Sem.run_bind,Sem.run_pure,Result.andThen_ok,run_storeVar_mid w g 0 t cells ht hi h1]
  refine hK _ _ ?_
  obtain ⟨cs',h2,h3,_,h5,_,h7,_⟩:=heap_setCells g e cells.toList 0 w cs hg (by simp;omega)
  have:cs'=cells:=by
    apply Array.ext_getElem?
    intro j
    by_cases hj:j<cells.size
    · have:=h5 j (by simpa using hj)
      rw [Nat.zero_add] at this
      rw [this];simp
    · rw [Array.getElem?_eq_none (by omega),Array.getElem?_eq_none (by omega)]
  subst this
  exact h _ h2 h7
end

theorem ownFrom_size{β:Type}(B N:Nat):OwnFrom B (fun (_:β) W=>N≤W.heap.size):=fun _ _ _ _ hs hg _=>Nat.le_trans hs hg.size
theorem own_block{β:Type}(B:Nat)(f:β→Array Value)(t:TypeId)(fr:Nat × Nat):Own (fun s W=>W.heap[B]? = some (.cells (f s) t fr)):=fun s X Y row hs hg hrow =>
  (hg.block B (lt_of_block hs) (fun e=>by obtain ⟨o,ho,hc⟩:=hrow B e.symm;rw [hs] at ho;cases ho;cases hc)).trans hs

theorem formM_size(c:Cup)(s:Nat):(formM c s).size=62:=by unfold formM;rw [formC_size];unfold placesM;rw [placesUpTo_length]
theorem formM_Z(c:Cup)(s:Nat):(formM c s).size=formZ.size:=by rw [formM_size];rfl
theorem formM_one(c:Cup)(s:Nat):(formM c s).all (·.oneCell')=true:=formC_one _ _
theorem info136(c:Cup)(s:Nat):(Tryz.prog.info? 145).map (·.size)=some (formM c s).size:=by rw [formM_size];exact size136

def betS(c:Cup)(a b:Nat):Bool:=betterF (totalM c a) (totalM c b) (placesM c a) (placesM c b)
def rankM(c:Cup)(s:Nat):Int:=1+((oth s c.sk.toNat).countP (fun x=>betS c x s):Nat)
def rankUp(c:Cup)(s:Nat)(pre:List Nat):Int:=1+(pre.countP (fun x=>betS c x s):Nat)

theorem better_form(c:Cup)(a b:Nat)(w:World):Calls Tryz.prog 111 #[.agg (formM c a),.agg (formM c b)] w (Ret (.bool (betS c a b)) w):=by
  have h:∀ s,(placesM c s).length=61:=fun s=>by unfold placesM;rw [placesUpTo_length]
  exact better_any _ _ _ _ (h a) (h b) w

theorem info120(a b c d e:Value):(Tryz.prog.info? 129).map (·.size)=some (#[a,b,c,d,e]:Array Value).size:=by
  have:(Tryz.prog.info? 129).map (·.size)=some 5:=by kernel_rfl
  exact this

theorem zip2(p q:Nat)(a b:Value)(t:Array Value):(#[p,q].zip #[a,b]).foldl (fun t (x:Nat × Value)=>t.setIfInBounds x.1 x.2) t=(t.setIfInBounds p a).setIfInBounds q b:=by simp

theorem keepsFrom_of_below(B:Nat){W W':World}(h:Below W.heap.size W W'):KeepsFrom B W W':=⟨h.size,fun k o _ hk _=>(h.block k (lt_of_block hk)).trans hk⟩

theorem rankUp_snoc(c:Cup)(s:Nat)(pre:List Nat)(x:Nat):rankUp c s (pre++[x])=if betS c x s=true then rankUp c s pre+1 else rankUp c s pre:=by
  unfold rankUp
  rw [List.countP_append,List.countP_singleton]
  split <;> omega
theorem rankUp_bd(c:Cup)(s:Nat)(pre:List Nat):1≤rankUp c s pre∧rankUp c s pre≤1+pre.length:=by
  unfold rankUp
  have:=List.countP_le_length (p:=fun x=>betS c x s) (l:=pre)
  omega
theorem oth_length(s k:Nat):(oth s k).length≤k:=by
  unfold oth
  exact Nat.le_trans (List.length_filter_le _ _) (by simp)

attribute [local go_sem] Oper.semAt_some

set_option maxRecDepth 1000000 in
set_option maxHeartbeats 4000000 in
theorem rank_any(c:Cup)(hV:Valid c)(v:Value)(s:Nat)(w:World)(hv:CupAt w v c)(hs:(s:Int)<c.sk) :
    Calls Tryz.prog 107 #[v,.int .i64 s] w (Ret (.int .i64 (rankM c s)) w):=by
  have HC:=hid hv
  obtain ⟨vp,vd,rfl,hp,hd⟩:=hv
  have HP:=hid hp
  have HD:=hid hd
  obtain ⟨pd,cd,rfl,hd2,hd3,_⟩:=hd.open
  obtain ⟨pp,cp,rfl,hp2,hp3,_⟩:=hp.open
  unfold maxLen at hd3 hp3
  clear hp hd
  obtain ⟨vp,hvp⟩:∃ vp,vp=Value.slice pp c.pts.length cp:=⟨_,rfl⟩
  obtain ⟨vd,hvd⟩:∃ vd,vd=Value.slice pd c.done.length cd:=⟨_,rfl⟩
  have HBX:=hid (((Below.refl w.heap.size w).alloc (Nat.le_refl _) (deskBox c (Value.slice pp c.pts.length cp) (Value.slice pd c.done.length cd))))
  have HF:=hid (form_any c hV _ s (w.alloc (deskBox c (Value.slice pp c.pts.length cp) (Value.slice pd c.done.length cd))) (HC.out.below HBX.out) hs)
  refine (callsIn_wide (n:=3)).1 ?_
  refine callsIn_of_wp_marks Tryz.func107 rfl trivial ?_ rfl
  simp only [Tryz.ntmps107,List.size_toArray,List.length_cons,List.length_nil,Nat.reduceAdd,Nat.reduceSub,Array.replicate_succ,Array.replicate_zero,List.push_toArray,List.append_toArray,List.nil_append,List.cons_append]
  have HPX:=hid (fun W (h:Below w.heap.size w W)=>ints_below HP.out h)
  have HDX:=hid (fun W (h:Below w.heap.size w W)=>rows_below HD.out h)
  clear hvp hvd
  gi_wp2_with (first
    | (refine ⟨trivial,?_⟩;gi_at_call 106;refine (callsIn_wide.2 HF.out).mono ?_;clear HF;rintro e w1 ⟨rfl,hb1⟩;have HB1:=hid hb1;clear hb1)
    | (with_reducible apply wpIL_alloc formZ zero136 rfl)
    | ((with_reducible apply wpIL_storeRow (hg:=heap_alloc_new _ _) (hi:=info136 c s) (hsz:=formM_Z c s) (h1:=formM_one c s));rfl;rfl;intro w2 h2 hg2
       have H5:=hid h2;have HG2:=hid hg2;clear h2 hg2
       have HB2:=hid (show Below w1.heap.size w1 w2 from (((Below.refl _ w1).alloc (Nat.le_refl _) _).grown HG2.out (by simp) (fun q hq=>by cases hq;exact Nat.le_refl _)))
       have hs1:w.heap.size+1≤w1.heap.size:=by have:=HB1.out.size;simpa using this
       have hs2:w1.heap.size+1≤w2.heap.size:=by have:=HG2.out.size;simpa using this
       have hsz1:=HB1.out.size
       have HBW2:=hid (show Below w.heap.size w w2 from (HBX.out.trans (HB1.out.mono (by simp))).trans (HB2.out.mono (by omega)))
       have H2:=hid (show w2.heap[w.heap.size]? = some (deskBox c (Value.slice pp c.pts.length cp) (Value.slice pd c.done.length cd)) from by rw [HB2.out.block _ (by omega),HB1.out.block _ (by simp)];exact heap_alloc_new w _)
       have H2A:=hid (show (w2.alloc (.cells #[.int .i64 1] 3)).heap[w.heap.size]? = some (deskBox c (Value.slice pp c.pts.length cp) (Value.slice pd c.done.length cd)) from ((World.grownBy_alloc w2 _ none).block w.heap.size (by omega) (by simp)).trans H2.out))
    | ((with_reducible apply wpIL_loadRow (hg:=H2A.out) (hu:=Tryz.underlying129) (hi:=info120 _ _ _ _ _));rfl;rfl)
    | (refine ⟨trivial,?_⟩;gi_at_call 131;refine (callsIn_wide.2 (others_any c _ _ s _ (HPX.out _ (HBW2.out.alloc (by omega) _)) (HDX.out _ (HBW2.out.alloc (by omega) _)))).mono ?_;rintro e w' ⟨rfl,rfl⟩))
  obtain ⟨W0,hW0⟩:∃ W0,W0=((w2.alloc (.cells #[.int .i64 1] 3)).alloc (deskBox c (Value.slice pp c.pts.length cp) (Value.slice pd c.done.length cd))).alloc (.cells #[.int .i64 s] 3):=⟨_,rfl⟩
  have HW0:=hid hW0
  have hsz0:W0.heap.size=w2.heap.size+3:=by rw [hW0];simp
  have HBW0:=hid (show Below w2.heap.size w2 W0 from by rw [hW0];exact (((Below.refl _ w2).alloc (Nat.le_refl _) _).alloc (by simp) _).alloc (by simp;omega) _)
  have HBWW:=hid (show Below w.heap.size w W0 from HBW2.out.trans (HBW0.out.mono (by omega)))
  have b6:Boxed W0 w2.heap.size 3 (.int .i64 1):=by rw [hW0];exact ((Boxed.new w2 3 _).alloc _).alloc _
  have hbD:W0.heap[w2.heap.size+1]? = some (deskBox c (Value.slice pp c.pts.length cp) (Value.slice pd c.done.length cd)):=by
    rw [hW0]
    refine ((World.grownBy_alloc _ _ none).block _ (by simp) (by simp)).trans ?_
    have:=heap_alloc_new (w2.alloc (.cells #[.int .i64 1] 3)) (deskBox c (Value.slice pp c.pts.length cp) (Value.slice pd c.done.length cd))
    simpa using this
  have hbS:W0.heap[w2.heap.size+1+1]? = some (.cells #[.int .i64 s] 3 (0,0)):=by
    rw [hW0]
    have:=heap_alloc_new ((w2.alloc (.cells #[.int .i64 1] 3)).alloc (deskBox c (Value.slice pp c.pts.length cp) (Value.slice pd c.done.length cd))) (.cells #[.int .i64 s] 3)
    simpa using this
  have h5:W0.heap[w1.heap.size]? = some (.cells (formM c s) 145 (0,0)):=(HBW0.out.block _ (by omega)).trans H5.out
  rw [← hW0]
  have HRB:=hid (fun pre=>rankUp_bd c s pre)
  have HOL:=hid (oth_length s c.sk.toNat)
  have hsk2:=hV.sk2
  have hsk1:=hV.sk1
  clear hW0 HW0 H2A H2 HB1 HBX HPX HDX HP HD hd2 hd3 hp2 hp3
  refine wpIn_rangeFunc_ownH rfl (by omega) (gf:=168) (lb := #[.pointer (some ⟨w2.heap.size+1,0,none⟩),.pointer (some ⟨w2.heap.size+1+1,0,none⟩)]) rfl trivial (enters_of Tryz.func168 (by kernel_rfl) rfl)
    (others_stops c hV w _ _ HC.out (3-1) (w2.heap.size+1) (by omega) s W0 HBWW.out hbD hbS) (fun h k=>KpD.trans h k) (KpD.put (by omega) (by omega)) (Below.refl _ _) (fun _=>rfl)
    (fun pre W=>(Boxed W w2.heap.size 3 (.int .i64 (rankUp c s pre))∧W.heap[w1.heap.size]? = some (.cells (formM c s) 145 (0,0)))∧(Below w.heap.size w W∧W0.heap.size≤W.heap.size))
    (fun _ _ _=>False)
    (OwnFrom.and (OwnFrom.and (Own.from (boxed_own _ _ (fun pre=>Value.int .i64 (rankUp c s pre))) _) (Own.from (own_block _ (fun _=>formM c s) _ _) _)) (OwnFrom.and (ownFrom_below (Nat.le_refl _) (by omega)) (ownFrom_size _ _)))
    (fun _ _ _ _ _ hs _ _=>hs)
    ⟨⟨b6,h5⟩,HBWW.out,Nat.le_refl _⟩
    (fun x a' W=>∃ Bx,W.heap[Bx]? = some (.cells (formM c x) 145 (0,0))∧a'={ tmps := #[Value.agg #[Value.int .i64 c.sk,Value.int .i64 c.ra,Value.int .i64 c.be,Value.slice pp c.pts.length cp,Value.slice pd c.done.length cd],.int .i64 s,.pointer (some ⟨w.heap.size,0,none⟩),undef,.int .i64 0,.pointer (some ⟨w1.heap.size,0,none⟩),.pointer (some ⟨w2.heap.size,0,none⟩),undef,.pointer (some ⟨Bx,0,none⟩),undef,Value.agg #[Value.int .i64 c.sk,Value.int .i64 c.ra,Value.int .i64 c.be,Value.slice pp c.pts.length cp,Value.slice pd c.done.length cd],.int .i64 s,.agg (formM c s),Value.agg #[Value.int .i64 c.sk,Value.int .i64 c.ra,Value.int .i64 c.be,Value.slice pp c.pts.length cp,Value.slice pd c.done.length cd],.int .i64 s,.func (.func 168) #[] #[.pointer (some ⟨w2.heap.size+1,0,none⟩),.pointer (some ⟨w2.heap.size+1+1,0,none⟩)],.int .i64 x,.agg (formM c x),undef,undef,undef,undef,undef,undef,undef,undef],defers:=[] })
    (fun x a' _ X Y row hs hg hr=>by obtain ⟨Bx,h2,h3⟩:=hs;exact ⟨Bx,own_block Bx (fun (_:Unit)=>formM c x) _ _ () X Y row h2 hg (fun r e=>(hr r e).2),h3⟩)
    ?assign ?body ?done ?stop
  case assign =>
    rintro l pre x W K ⟨⟨bS1,h51⟩,hB1,hZ⟩ hK
    have hsW:=hB1.size
    have hl6:=bS1.lt
    have hl5:=lt_of_block h51
    refine wpIn_region_lit ?_
    rw [show (#[16,17].zip #[Value.int .i64 x,.agg (formM c x)]).foldl _ _=_ from zip2 16 17 _ _ _]
    simp only [List.setIfInBounds_toArray,List.set_cons_succ,List.set_cons_zero]
    refine wpIL_alloc formZ zero136 rfl ?_
    refine wpIL_storeRow (hg:=heap_alloc_new _ _) (hi:=info136 c x) (hsz:=formM_Z c x) (h1:=formM_one c x) ?_ ?_ ?_
    · rfl
    · rfl
    intro w4 h4 hg4
    have H4:=hid h4;have HG4:=hid hg4;clear h4 hg4
    have hBW:RowKit.Below W.heap.size W w4:=(((Below.refl _ W).alloc (Nat.le_refl _) _).grown HG4.out (by simp) (fun q hq=>by cases hq;exact Nat.le_refl _))
    refine wpListIn_nil ?_
    exact hK _ _ (keepsFrom_of_below _ hBW) (KpD.of_below hBW hB1.size (by omega)) ⟨⟨(hBW.block _ hl6).trans bS1,(hBW.block _ hl5).trans h51⟩,hB1.trans (hBW.mono hsW),Nat.le_trans hZ hBW.size⟩ ⟨W.heap.size,H4.out,rfl⟩
  case body =>
    rintro l pre x a' W hl ⟨r,hr⟩ ⟨⟨bS1,h51⟩,hB1,hZ⟩ ⟨Bx,hBx,rfl⟩ hlt
    have hsW:=hB1.size
    have HBET:=hid (fun W=>better_form c x s W)
    obtain ⟨bet,hbet⟩:∃ bet,bet=betS c x s:=⟨_,rfl⟩
    rw [← hbet] at HBET
    have HBETE:=hid hbet
    obtain ⟨ru,hru⟩:∃ ru,ru=rankUp c s pre:=⟨_,rfl⟩
    obtain ⟨hr1,hr2⟩:=HRB.out pre
    have hol:=HOL.out
    rw [← hru] at hr1 hr2 bS1
    have HRU:=hid hru
    have HX:=hid hBx
    have H51:=hid h51
    clear hbet hru hBx h51
    gi_wp2_with (first
      | ((with_reducible apply wpIL_loadRow (hg:=HX.out) (hu:=Tryz.underlying145) (hi:=info136 c x));rfl;rfl)
      | ((with_reducible apply wpIL_loadRow (hg:=H51.out) (hu:=Tryz.underlying145) (hi:=info136 c s));rfl;rfl)
      | (refine ⟨trivial,?_⟩;gi_at_call 111;refine (CallsIn.inRound l (callsIn_wide.2 (HBET.out _))).mono ?_;rintro e w4 ⟨rfl,hb4⟩;have HB4:=hid hb4;have bS4:Boxed w4 w2.heap.size 3 (.int .i64 ru):=(hb4.block _ bS1.lt).trans bS1;have cS4:=bS4.cell;have fS4:=bS4.frozen;clear hb4))
    · have HS:=rankUp_snoc c s pre x
      rw [← HBETE.out,← HRU.out] at HS
      have hg6:=grown_set w4 w2.heap.size 0 (.int .i64 (ru+1))
      have hl5:=lt_of_block H51.out
      refine ⟨(keepsFrom_of_below _ HB4.out).trans (KeepsFrom.of_grownBy hg6 (fun q hq=>by cases hq;omega)),(KpD.of_below HB4.out hsW (by omega)).trans ⟨(Below.refl _ w4).grown hg6 (by have:=HB4.out.size;omega) (fun q hq=>by cases hq;omega),hg6.block _ (by have:=HB4.out.size;omega) (by simp),hg6.block _ (by have:=HB4.out.size;omega) (by simp;omega)⟩,⟨?_,?_⟩,?_,?_⟩
      · rw [HS,if_pos (by assumption)];exact bS4.set _
      · exact (hg6.block _ (by have:=HB4.out.size;omega) (by simp;omega)).trans ((HB4.out.block _ hl5).trans H51.out)
      · exact (hB1.trans (HB4.out.mono hsW)).grown hg6 (by have:=HB4.out.size;omega) (fun q hq=>by cases hq;omega)
      · exact Nat.le_trans hZ (Nat.le_trans HB4.out.size hg6.size)
    · have HS:=rankUp_snoc c s pre x
      rw [← HBETE.out,← HRU.out] at HS
      have hl5:=lt_of_block H51.out
      refine ⟨keepsFrom_of_below _ HB4.out,KpD.of_below HB4.out hsW (by omega),⟨?_,(HB4.out.block _ hl5).trans H51.out⟩,hB1.trans (HB4.out.mono hsW),Nat.le_trans hZ HB4.out.size⟩
      rw [HS,if_neg (by first | assumption | (intro hh;simp_all))];exact bS4
  case done =>
    rintro D zs W hD rfl ⟨⟨bS1,_⟩,hB1,_⟩ hK
    have cS:=bS1.cell
    gi_wp2
    refine ⟨by simp,.inl ⟨_,_,rfl,run_takeDeferred hK,?_⟩⟩
    exact ⟨_,results_tmp rfl _ _ _,rfl,hB1.trans (belowK_b (w:=w) (Nat.le_refl _) W D _ _ (by omega) hK rfl rfl)⟩
  case stop =>
    rintro D c pre W _ _ h _
    exact h.elim
end KL
end Go.Proofs
end
section
namespace Go.Proofs
open Go.RowKit Go.Lib Go.Sort
namespace KL

abbrev deskV(c:Cup)(vp vd:Value):Value := .agg #[.int .i64 c.sk,.int .i64 c.ra,.int .i64 c.be,vp,vd]
abbrev deskZ:Array Value := #[.int .i64 0,.int .i64 0,.int .i64 0,.slice none 0 0,.slice none 0 0]

theorem heap_old(w:World)(o:Obj)(k:Nat)(h:k<w.heap.size):(w.alloc o).heap[k]? = w.heap[k]? := (World.grownBy_alloc w o none).block k h (by simp)

structure Got (c:Cup) (vp vd:Value) (w w2:World) (A B:Nat):Prop where
  bel:Below w.heap.size w w2
  box:w2.heap[A]? = some (cupBox c vp vd)
  desk:w2.heap[B]? = some (deskBox c vp vd)
  hA:w.heap.size≤A
  hB:A<B

theorem Got.grow{c:Cup}{vp vd:Value}{w w2 w3:World}{A B:Nat}(h:Got c vp vd w w2 A B)(hb:Below w2.heap.size w2 w3):Got c vp vd w w3 A B :=
  ⟨h.bel.trans (hb.mono h.bel.size),(hb.block A (lt_of_block h.box)).trans h.box,(hb.block B (lt_of_block h.desk)).trans h.desk,h.hA,h.hB⟩

end KL
end Go.Proofs
end
section
namespace Go.Proofs
open Go.RowKit Go.Lib Go.Sort
namespace KL

section
variable {ops:Array Oper} {rest:List Oper} {dst:Option Tmp} {ty:TypeId} {pos:String} {af:Array Edge} {a:Act} {w:World} {Q:Exit→Act→World→Prop}
theorem wpL_field0{x:Operand}{c:Cup}{s:Nat}(hx:a.eval x = .agg (formM c s))(h:wpList Tryz.prog ops Q rest (a.put dst (.int .i64 (totalM c s))) w) :
    wpList Tryz.prog ops Q ({ dst:=dst,op := .field 145 x 0,type:=ty,pos:=pos,after:=af,guard:=none }::rest) a w:=by
  refine wpList_plain rfl fun K hK => ?_
  have hp:=pa3 w (totalM c s) (placesM c s)
  rw [show formC (totalM c s) (placesM c s)=formM c s from rfl] at hp
  unfold Oper.wp
  have hI:(Instr.field 145 (.agg (formM c s)) 0).run Tryz.prog w = .ok (.int .i64 (totalM c s)) w:=by
    simp [Instr.field,run_underlying Tryz.underlying145,asAgg]
    exact hp
  simp only [execOp,hx,Sem.run_bind,hI,Result.andThen_ok]
  exact hK _ _ h
end

theorem own_later{w w1:World}{base size n:Nat}{e:TypeId}{v:Value}{xs:List Value}(h:w.ownsRow base e size v n xs)(hb:Below w.heap.size w w1):w1.ownsRow base e size v n xs :=
  h.kept (grown_of_below hb none) (Classical.em _)

def totalsUp(c:Cup)(k:Nat):List Int:=(List.range k).map (totalM c)
def totalsM(c:Cup):List Int:=totalsUp c c.sk.toNat
theorem totalsUp_succ(c:Cup)(k:Nat):totalsUp c (k+1)=totalsUp c k++[totalM c k]:=by simp [totalsUp,List.range_succ]
theorem totalsUp_length(c:Cup)(k:Nat):(totalsUp c k).length=k:=by simp [totalsUp]

set_option maxHeartbeats 2000000 in
set_option maxRecDepth 1000000 in
theorem totals_any(c:Cup)(hV:Valid c)(vp vd:Value)(w:World)(hp:Ints w vp c.pts)(hd:Rows w vd c.done) :
    Calls Tryz.prog 97 #[deskV c vp vd] w (RetOwn (totalsM c) w):=by
  have hB0:=(Below.refl w.heap.size w).alloc (Nat.le_refl _) (deskBox c vp vd)
  have HF:=hid (fun W (hW:Below w.heap.size w W) (s:Nat) (hs:(s:Int)<c.sk)=>form_any c hV (deskV c vp vd) s W ⟨vp,vd,rfl,ints_below hp hW,rows_below hd hW⟩ hs)
  obtain ⟨pd,cd,rfl,hd2,hd3,_⟩:=hd.open
  obtain ⟨pp,cp,rfl,hp2,hp3,_⟩:=hp.open
  unfold maxLen at hd3 hp3
  have HB0:=hid hB0
  have HH:=hid (heap_alloc_new w (deskBox c (.slice pp c.pts.length cp) (.slice pd c.done.length cd)))
  have hsk1:=hV.sk1
  have hsk2:=hV.sk2
  clear hB0 hp hd
  have hBB:=Below.refl (w.heap.size+1) (w.alloc (deskBox c (.slice pp c.pts.length cp) (.slice pd c.done.length cd)))
  go_enter Tryz.func97,Tryz.ntmps97
  go_wp2
  go_loopw [3,8] (fun o i wr=>∃ (k n:Nat) (p:Option Addr) (cap:Nat),(k:Int)≤c.sk∧i = .int .i64 k∧o = .slice p n cap∧n≤k∧k≤n∧wr.ownsRow (w.heap.size+1) 3 1 (.slice p n cap) n ((totalsUp c k).map (Value.int .i64)) ∧
      Below (w.heap.size+1) (w.alloc (deskBox c (.slice pp c.pts.length cp) (.slice pd c.done.length cd))) wr) (fun _ i _=>c.sk.toNat-(intOf i).toNat)
  case atStart=>exact ⟨0,0,none,0,by omega,rfl,rfl,by omega,by omega,World.ownsRow_nil _ _ _ _,hBB⟩
  case round =>
    obtain ⟨k,n,p,cap,hk,rfl,rfl,hn1,hn2,ho,hB⟩:=hrel
    have HO:=hid ho
    have HB:=hid hB
    have hsz:w.heap.size+1≤wr.heap.size:=by have:=hB.size;simpa using this
    have H2:=hid ((hB.block w.heap.size (by omega)).trans HH.out)
    have HBW:=hid (show Below w.heap.size w wr from HB0.out.trans (hB.mono (by omega)))
    obtain ⟨k0,k1,k2,k3,k4⟩:=desk_cells H2.out
    clear ho hB hBB
    by_cases hlt:(k:Int)<c.sk
    · have HN:=hid (totalsUp_succ c k)
      have HFK:=hid (HF.out wr HBW.out k hlt)
      obtain ⟨tt,htt⟩:∃ tt,tt=totalM c k:=⟨_,rfl⟩
      rw [← htt] at HN
      have HTT:=hid htt
      clear htt
      go_wp2_with (first
        | (go_at_call 106;refine HFK.out.mono ?_;clear HFK;rintro e w1 ⟨rfl,hb1⟩;have HB1:=hid hb1
           have HO1:=hid (show w1.ownsRow (w.heap.size+1) 3 1 (.slice p n cap) n ((totalsUp c k).map (Value.int .i64)) from own_later HO.out hb1)
           have hsz1:=hb1.size;clear hb1)
        | ((with_reducible apply wpL_field0);rfl;rw [← HTT.out])
        | (at_builtin;((with_reducible apply wpL_append1 (hown:=HO1.out.alloc _) (ht:=Tryz.underlying22) (hinfo:=info3z) (news:=[.int .i64 tt]));rfl;omega;rfl;rfl;rfl;(intro j u hu;cases j with | zero=>(simp only [List.getElem?_cons_zero,Option.some.injEq] at hu;subst hu;simp) | succ j=>simp at hu);(intro u hu;simp only [List.mem_singleton] at hu;subst hu;rfl);omega;omega;(simp;omega);intro g' n' cap' w' hn' hn'1 hn'2 ho' hg';have HO':=hid ho';have HG':=hid hg';have HN':=hid hn';clear ho' hg' hn')))
      go_roundw
      case rel =>
        have ho2:=HO'.out
        have e1:(totalsUp c k).map (Value.int .i64)++[.int .i64 tt]=(totalsUp c (k+1)).map (Value.int .i64):=by rw [HN.out,List.map_append];rfl
        rw [e1] at ho2
        exact ⟨k+1,n',_,cap',by omega,by go_num,rfl,by omega,by omega,ho2,((HB.out.trans (HB1.out.mono hsz)).alloc (by omega) _).grown HG'.out (by simp;omega) (fun q hq=>(HO.out.lt q hq).1)⟩
      case measure=>simp [intOf];omega
    · have HK:=hid (show k=c.sk.toNat by omega)
      go_wp2
      go_ret
      have ho2:=HO.out
      rw [show totalsUp c k=totalsM c from by rw [HK.out];rfl] at ho2
      have ho3:OwnI wr (w.heap.size+1) (.slice p n cap) (totalsM c):=by
        unfold OwnI
        have:(totalsM c).length=n:=by unfold totalsM;rw [totalsUp_length,← HK.out];omega
        rw [this];exact ho2
      exact RetOwn.of (OwnI.later ho3 (Below.refl _ _) (by omega)) HBW.out
end KL
end Go.Proofs
end
section
namespace Go.Proofs
open Go.RowKit Go.Lib Go.Sort
namespace KL

theorem results_tmp2{fn:Func}{p q:Tmp}(h:fn.results = #[.tmp p,.tmp q])(tmps:Array Value)(w:World):(results fn tmps).run Tryz.prog w = .ok (.tuple #[tmps.getD p undef,tmps.getD q undef]) w:=by
  simp [results,h]


end KL
end Go.Proofs
end
section
namespace Go.Proofs
open Go.RowKit Go.Lib Go.Sort
namespace KL

end KL
end Go.Proofs
end
section
namespace Go.Proofs
open Go.RowKit
namespace KL
section
variable {P:Program} {ops:Array Oper} {md:Region.Mode} {C:World→Prop}

end
end KL
end Go.Proofs
end
section
namespace Go.Proofs
open Go.RowKit Go.Lib Go.Sort
namespace KL

end KL
end Go.Proofs
end
section
namespace Go.Proofs
open Go.RowKit
namespace KL
section
variable {P:Program} {ops:Array Oper} {md:Region.Mode}

structure LaterB (B:Nat) (w:World) where
  W:World
  h:Below B w W

instance (B:Nat) (w:World):Nonempty (LaterB B w):=⟨⟨w,Below.refl _ _⟩⟩

theorem later_cellB{B:Nat}{w:World}{b o:Nat}{u:Value}(h:w.cell? ⟨b,o,none⟩=some u)(hb:b<B)(z:LaterB B w):z.W.cell? ⟨b,o,none⟩=some u :=
  (z.h.cell (p:=⟨b,o,none⟩) hb).trans h

def plainB(o:Oper):Bool:=match o.op with
  | .move _ | .assign _ | .load .. | .fieldAddr .. | .indexAddr .. => true
  | _=>false

theorem value_of{m:Sem Value}{w w':World}{n:Next}(h:((do let v ← m;pure (Next.value v)):Sem Next).run P w = .ok n w'):∃ u,n = .value u:=by
  rw [Sem.run_bind] at h
  cases hm:m.run P w with
  | ok v w1=>rw [hm] at h;simp at h;exact ⟨v,h.1.symm⟩
  | halt _ _=>rw [hm] at h;simp at h

theorem plain_value{o:Oper}{ρ:Operand→Value}{w w':World}{n:Next}(hp:plainB o=true)(h:(execOp ρ o).run P w = .ok n w'):∃ u,n = .value u:=by
  unfold plainB at hp
  cases ho:o.op <;> simp only [ho] at hp <;> (try cases hp) <;> simp only [execOp,ho] at h <;> first | exact value_of h | (simp at h;exact ⟨_,h.1.symm⟩)

theorem upon_then{o:Oper}{a:Act}{K N:Act→World→Prop}{Q:Exit→Act→World→Prop}{r:Result Next}(h:o.upon P a K (Exit.then N Q) r):o.upon P a K Q r:=by
  cases r with
  | ok n w'=>cases n <;> exact h
  | halt e w'=>cases e <;> exact h

def wpSeq(P:Program)(ops:Array Oper)(S:World→Prop)(Q:Exit→Act→World→Prop):List Oper→Act→World→Prop
  | [],a,w=>Q .normal a w
  | o::rest,a,w=>wpList P ops (Exit.then (fun a' w'=>S w'∧wpSeq P ops S Q rest a' w') Q) [o] a w

def chainOK(md:Region.Mode)(ops:Array Oper):List Nat→Array Bool→Bool
  | [],listed=>(Region.ready md ops listed).isEmpty
  | r::rs,listed=>decide (Region.ready md ops listed=[r]) && chainOK md ops rs (listed.setIfInBounds r true)
def takeB(md:Region.Mode)(ops:Array Oper)(rs:List Nat):List Nat→Array Bool→Bool
  | [],listed=>chainOK md ops rs listed
  | t::ts,listed=>(match ops[t]? with | some o=>plainB o && o.guard.isNone | none=>false) && (Region.ready md ops listed).contains t && Region.free md ops listed t && takeB md ops rs ts (listed.setIfInBounds t true)

theorem seq_any{S:World→Prop}{Q:Exit→Act→World→Prop}:∀ (rs:List Nat) (lo:List Oper) (listed:Array Bool) (a:Act) (w:World),lo=rs.filterMap (fun i=>ops[i]?)→rs.all (fun i=>decide (i<ops.size))=true →
    chainOK md ops rs listed=true→wpSeq P ops S Q lo a w→wpAnyH P md ops Q S rs.length listed a w
  | [],lo,listed,a,w,hlo,_,hB,h=>by
    subst hlo
    exact ⟨by simpa [chainOK] using hB,h⟩
  | r::rs,lo,listed,a,w,hlo,hr,hB,h=>by
    simp only [List.all_cons,Bool.and_eq_true,decide_eq_true_eq] at hr
    simp only [chainOK,Bool.and_eq_true,decide_eq_true_eq] at hB
    obtain ⟨o,ho⟩:∃ o,ops[r]? = some o:=⟨_,Array.getElem?_eq_getElem hr.1⟩
    simp only [List.filterMap_cons,ho] at hlo
    subst hlo
    refine ⟨fun h0=>(by rw [hB.1] at h0;cases h0),fun i hi => ?_⟩
    rw [hB.1] at hi
    obtain rfl:i=r:=by simpa using hi
    have hw:wpOp P ops Q i (fun a' w'=>S w'∧wpSeq P ops S Q (rs.filterMap fun i=>ops[i]?) a' w') a w:=by
      unfold wpOp
      simp only [ho]
      have h':if Region.wanted o (yielded ops a.tmps) then o.wp P a w (wpList P ops (Exit.then (fun a' w'=>S w'∧wpSeq P ops S Q (rs.filterMap fun i=>ops[i]?) a' w') Q) []) (Exit.then (fun a' w'=>S w'∧wpSeq P ops S Q (rs.filterMap fun i=>ops[i]?) a' w') Q)∨(o.asks P a w∧LetsOut (Exit.then (fun a' w'=>S w'∧wpSeq P ops S Q (rs.filterMap fun i=>ops[i]?) a' w') Q)) else wpList P ops (Exit.then (fun a' w'=>S w'∧wpSeq P ops S Q (rs.filterMap fun i=>ops[i]?) a' w') Q) [] (a.put o.dst undef) w:=h
      split
      · rename_i hw
        rw [if_pos hw] at h'
        exact h'.imp (fun h1=>upon_then h1) (fun h1=>h1)
      · rename_i hw
        rw [if_neg hw] at h'
        exact h'
    exact wpOp_mono (fun a' w' h'=>⟨h'.1,seq_any rs _ _ a' w' rfl hr.2 hB.2 h'.2⟩) hw
theorem take_any{S:World→Prop}{Q:Exit→Act→World→Prop}(hsel:Region.noSelect ops=true)(hQ:∀ (d:Option Tmp) (v:Value) c a1 w1,Q (.panic c) (a1.put d v) w1→Q (.panic c) a1 w1)(w:World)(hS:S w)(rs:List Nat) :
    ∀ (ts:List Nat) (lt:List Oper) (listed:Array Bool) (a:Act),lt=ts.filterMap (fun i=>ops[i]?)→takeB md ops rs ts listed=true→rs.all (fun i=>decide (i<ops.size))=true →
    wpQuiet P ops S (fun a'=>wpSeq P ops S Q (rs.filterMap fun i=>ops[i]?) a' w) lt a→wpAnyH P md ops Q S (ts.length+rs.length) listed a w
  | [],lt,listed,a,hlt,hB,hr,h=>by
    subst hlt
    simp only [List.length_nil,Nat.zero_add]
    exact seq_any rs _ listed a w rfl hr hB h
  | t::ts,lt,listed,a,hlt,hB,hr,h=>by
    simp only [takeB,Bool.and_eq_true] at hB
    obtain ⟨⟨⟨hp,hrd⟩,hf⟩,hB'⟩:=hB
    cases ho:ops[t]? with
    | none=>rw [ho] at hp;cases hp
    | some o =>
      rw [ho] at hp
      simp only [Bool.and_eq_true,Option.isNone_iff_eq_none] at hp
      simp only [List.filterMap_cons,ho] at hlt
      subst hlt
      have hw:Region.wanted o (yielded ops a.tmps)=true:=by simp [Region.wanted,hp.2]
      have h1:if Region.wanted o (yielded ops a.tmps) then o.quiet P a S (wpQuiet P ops S (fun a'=>wpSeq P ops S Q (rs.filterMap fun i=>ops[i]?) a' w) (ts.filterMap fun i=>ops[i]?)) else wpQuiet P ops S (fun a'=>wpSeq P ops S Q (rs.filterMap fun i=>ops[i]?) a' w) (ts.filterMap fun i=>ops[i]?) (a.put o.dst undef):=h
      rw [if_pos hw] at h1
      obtain ⟨v,hv,hK⟩:=h1
      have e:(t::ts).length+rs.length=(ts.length+rs.length)+1:=by simp;omega
      rw [e]
      refine wpAnyH_take ho hsel hf hrd (fun c a1 w1=>hQ o.dst v c a1 w1) (Or.inl ⟨hw,fun W hW => ?_⟩) hS ?_
      · have h2:=hv W hW
        unfold Oper.quietAt at h2
        cases hr:(execOp a.eval o).run P W with
        | ok n w' =>
          obtain ⟨u,rfl⟩:=plain_value hp.1 hr
          rw [hr] at h2
          obtain ⟨h3,h4⟩:=h2
          rw [h3,h4]
        | halt e w'=>rw [hr] at h2;cases h2
      · exact take_any hsel hQ w hS rs ts _ _ _ rfl hB' hr hK

def takenB(l:List Oper)(ts rs:List Nat):Bool :=
  Region.noSelect l.toArray && takeB .any l.toArray rs ts (Array.replicate l.toArray.size false) && rs.all (fun i=>decide (i<l.toArray.size)) && decide (ts.length+rs.length=l.toArray.size)

theorem wp_region_S{id:Nat}{Q:Exit→Act→World→Prop}{a:Act}{w:World}{l:List Oper}(B:Nat)(ts rs:List Nat)(hm:P.follows .mixedOrders=true)(hB:takenB l ts rs=true)
    (hQ:∀ (d:Option Tmp) (v:Value) c a1 w1,Q (.panic c) (a1.put d v) w1→Q (.panic c) a1 w1)
    (h:∀ w0,Below w.heap.size w w0→w0.heap=w.heap→wpQuiet P l.toArray (fun w'=>∃ z:LaterB B w,w'=z.W)
      (fun a'=>wpSeq P l.toArray (fun w'=>∃ z:LaterB B w,w'=z.W) Q (rs.filterMap fun i=>l[i]?) a' w0) (ts.filterMap fun i=>l[i]?) a):(Code.region id l.toArray true).wp P Q a w:=by
  simp only [takenB,Bool.and_eq_true,decide_eq_true_eq] at hB
  obtain ⟨⟨⟨hsel,ht⟩,hr⟩,hl⟩:=hB
  have h0:=h { w with drawn:=w.drawn+1 } ((Below.refl _ w).drew) rfl
  refine wp_region_held (S:=fun w'=>∃ z:LaterB B w,w'=z.W) hm ?_
  rw [← hl]
  refine take_any hsel hQ _ ⟨⟨_,(Below.refl _ w).drew⟩,rfl⟩ rs ts _ _ a rfl (by rw [hl];exact ht) hr ?_
  simpa using h0
end
end KL
end Go.Proofs
end
section
namespace Go.Proofs
open Go.RowKit Go.Lib Go.Sort
namespace KL
section
variable {P:Program} {ops:Array Oper} {rest:List Oper} {dst:Option Tmp} {ty:TypeId} {pos:String} {af:Array Edge} {a:Act} {w:World} {Q:Exit→Act→World→Prop}

theorem wpL_makeInts{t:TypeId}{x y:Operand}{n:Nat}(base:Nat)(ht:P.underlying t=some (.slice 3))(hinfo:(P.info? 3).map (fun i=>(i.zero,i.size,i.bytes))=some (some (.int .i64 0),1,8))
    (hx:a.eval x = .int .i64 n) (hy:a.eval y = .int .i64 n) (hn:n≤1000) (hb:base≤w.heap.size)
    (h:∀ w',w'.ownsRow base 3 1 (.slice (some ⟨w.heap.size,0,none⟩) n n) n ((List.replicate n (0:Int)).map (Value.int .i64))→w.grownBy w' none→wpList P ops Q rest (a.put dst (.slice (some ⟨w.heap.size,0,none⟩) n n)) w') :
    wpList P ops Q ({ dst:=dst,op := .makeSlice t x y,type:=ty,pos:=pos,after:=af,guard:=none }::rest) a w:=by
  obtain ⟨i,hi,hz,hz1,hz2⟩:=info_parts hinfo
  refine wpList_make_full w rfl x y t rfl base 3 i (.int .i64 0) 1 ht hi hz hz1 .i64 .i64 n n n hx hy rfl rfl (by rw [hz2];omega) (by unfold maxLen;omega) hb (fun w' ho hg=>h w' ?_ hg)
  have e:(madeCells (Value.int .i64 0).cells (n*1)).toList=(List.replicate n (0:Int)).map (Value.int .i64):=by
    rw [Nat.mul_one,List.map_replicate]
    exact toList_madeCells_one _ _
  rw [e] at ho
  exact ho
end

theorem own_store{w:World}{base g n cap:Nat}{L:List Int}(h:w.ownsRow base 3 1 (.slice (some ⟨g,0,none⟩) n cap) n (L.map (Value.int .i64))) :
    (∀ t y,L[t]? = some y→w.cell? ⟨g,t,none⟩=some (.int .i64 y))∧(∀ t,w.frozen? ⟨g,t,none⟩=false):=by
  refine ⟨fun t y ht=>own_cell h ht,fun t => ?_⟩
  rcases h.2 with ⟨h0,_⟩ | ⟨g',cap',cur,h0,_,hg,_⟩
  · cases h0
  · cases h0
    exact frozen_of_row _ _ t _ _ hg

def wonRace(n s:Nat):List Int:=(List.replicate n (0:Int)).set s 1
theorem wonRace_length(n s:Nat):(wonRace n s).length=n:=by simp [wonRace]

set_option maxHeartbeats 1000000 in
theorem wonRace_any(c:Cup)(hV:Valid c)(vp vd:Value)(s:Nat)(hs:(s:Int)<c.sk)(w:World)(b1 b2:Nat)(h1:w.heap[b1]? = some (deskBox c vp vd))(h2:w.cell? ⟨b2,0,none⟩=some (.int .i64 s)) :
    Calls Tryz.prog 170 #[.pointer (some ⟨b1,0,none⟩),.pointer (some ⟨b2,0,none⟩)] w (RetOwn (wonRace c.sk.toNat s) w):=by
  have hsk1:=hV.sk1
  have hsk2:=hV.sk2
  obtain ⟨k0,k1,k2,k3,k4⟩:=desk_cells h1
  obtain ⟨n,hn⟩:∃ n:Nat,c.sk=n:=⟨c.sk.toNat,by omega⟩
  rw [hn] at k0 hs
  have hn2:c.sk.toNat=n:=by omega
  rw [hn2]
  have HL:=hid (wonRace_length n s)
  have HW:=hid (show (List.replicate n (0:Int)).set s 1=wonRace n s from rfl)
  have hb1:=lt_of_block h1
  have hb2:=World.block_lt_of_cell? w _ h2
  have hn12:n≤12:=by omega
  have hsn:s<n:=by omega
  clear k1 k2 k3 k4 hn hn2 hsk1 hsk2 h1
  go_enter Tryz.func170,Tryz.ntmps170
  go_wp2_with ((with_reducible apply wpL_makeInts (n:=n) w.heap.size (ht:=Tryz.underlying22) (hinfo:=info3z));rfl;rfl;omega;omega;intro w1 ho hg;have HO:=hid ho;have HG:=hid hg;have hc2:w1.cell? ⟨b2,0,none⟩=some (.int .i64 s):=((below_of_grown hg).cell (p:=⟨b2,0,none⟩) hb2).trans h2;obtain ⟨hcc,hff⟩:=own_store ho;have hcs:=hcc s 0 (by simp [List.getElem?_replicate,hsn]);have hfs:=hff s;clear ho hg hcc hff)
  go_ret
  obtain ⟨hst,hgr⟩:=World.ownsRow.stored HO.out s (.int .i64 1)
  rw [← List.map_set,HW.out] at hst
  refine RetOwn.of (v := .slice (some ⟨w.heap.size,0,none⟩) n n) (by unfold OwnI;rw [HL.out];exact hst) ((below_of_grown HG.out).grown hgr HG.out.size (fun q hq=>by cases hq;exact Nat.le_refl _))
end KL
end Go.Proofs
end
section
namespace Go.Proofs
open Go.RowKit Go.Lib Go.Sort
namespace KL

theorem info22z:(Tryz.prog.info? 22).map (fun i=>(i.zero,i.size,i.bytes))=some (some (.slice none 0 0),1,24):=by kernel_rfl

def OwnR(w:World)(base:Nat)(v:Value)(L:List (List Int)):Prop :=
  ∃ us:List Value,w.ownsRow base 22 1 v L.length us∧∀ i (h:i<L.length),∃ u,us[i]? = some u∧OwnI w base u L[i]

theorem own_apart{w:World}{b1 b2 n1 n2:Nat}{e1 e2:TypeId}{v1 v2:Value}{x1 x2:List Value}(h1:w.ownsRow b1 e1 1 v1 n1 x1)(h2:w.ownsRow b2 e2 1 v2 n2 x2)(he:e1≠e2):v1.ownBlock=none∨v1.ownBlock≠v2.ownBlock:=by
  rcases h1.2 with ⟨rfl,_⟩ | ⟨g,cap,cur,rfl,_,hg,_⟩
  · left;rfl
  · rcases h2.2 with ⟨rfl,_⟩ | ⟨g',cap',cur',rfl,_,hg',_⟩
    · right;simp [Value.ownBlock]
    · right
      simp only [Value.ownBlock,ne_eq,Option.some.injEq]
      intro e
      subst e
      rw [hg] at hg'
      injection hg' with e
      injection e with _ e
      exact he e

theorem OwnR.rows{w:World}{base:Nat}{v:Value}{L:List (List Int)}(h:OwnR w base v L):Rows w v L:=by
  obtain ⟨us,ho,hu⟩:=h
  rcases ho.2 with ⟨rfl,h0⟩ | ⟨g,cap,cur,rfl,_,hg,hnc,hcm,hcs,htake⟩
  · obtain rfl:L=[]:=List.eq_nil_of_length_eq_zero h0
    exact Row.nil _
  · refine ⟨_,cap,rfl,hnc,hcm,fun i hi => ?_⟩
    obtain ⟨u,hui,hown⟩:=hu i hi
    refine ⟨g,0,u,rfl,?_,hown.ints⟩
    rw [Nat.zero_add,cell_of_row _ _ _ _ _ _ hg]
    rw [← htake,List.getElem?_take] at hui
    split at hui
    · simpa using hui
    · cases hui

theorem OwnR.nil(w:World)(base:Nat):OwnR w base (.slice none 0 0) []:=⟨[],World.ownsRow_nil _ _ _ _,fun i h=>by simp at h⟩

theorem OwnR.later{w w1:World}{base:Nat}{v:Value}{L:List (List Int)}(h:OwnR w base v L)(hb:Below w.heap.size w w1):OwnR w1 base v L:=by
  obtain ⟨us,ho,hu⟩:=h
  exact ⟨us,own_later ho hb,fun i hi=>by
    obtain ⟨u,h1,h2⟩:=hu i hi
    exact ⟨u,h1,own_later h2 hb⟩⟩

theorem OwnR.form{w:World}{base:Nat}{v:Value}{L:List (List Int)}(h:OwnR w base v L):∃ p cap,v = .slice p L.length cap:=by
  obtain ⟨us,ho,_⟩:=h
  rcases ho.2 with ⟨rfl,h0⟩ | ⟨g,cap,cur,rfl,_⟩
  · exact ⟨none,0,by rw [h0]⟩
  · exact ⟨_,cap,rfl⟩

theorem OwnR.snoc{w w':World}{base:Nat}{v v' u:Value}{L:List (List Int)}{R:List Int}{us:List Value}(ho:w.ownsRow base 22 1 v L.length us)(hu:∀ i (h:i<L.length),∃ u,us[i]? = some u∧OwnI w base u L[i])
    (hR:OwnI w base u R) (ho':w'.ownsRow base 22 1 v' (L.length+1) (us++[u])) (hg:w.grownBy w' v.ownBlock):OwnR w' base v' (L++[R]):=by
  have hk:∀ {x:Value} {X:List Int},OwnI w base x X→OwnI w' base x X:=fun h=>World.ownsRow.kept h hg (own_apart h ho (by decide))
  refine ⟨us++[u],by rw [List.length_append];exact ho',fun i hi => ?_⟩
  have hl:=ho.1
  simp only [Nat.mul_one] at hl
  simp only [List.length_append,List.length_cons,List.length_nil] at hi
  by_cases hlt:i<L.length
  · obtain ⟨x,h1,h2⟩:=hu i hlt
    refine ⟨x,by rw [List.getElem?_append_left (by omega)];exact h1,?_⟩
    rw [List.getElem_append_left hlt]
    exact hk h2
  · have:i=L.length:=by omega
    subst this
    refine ⟨u,by rw [← hl];simp,?_⟩
    rw [List.getElem_append_right (Nat.le_refl _)]
    simpa using hk hR

def RetRows(L:List (List Int))(w:World)(e:Ending)(w':World):Prop:=∃ p n cap,e = .returned (.slice p n cap)∧n=L.length∧OwnR w' w.heap.size (.slice p n cap) L∧Below w.heap.size w w'

theorem OwnR.base{w:World}{base base':Nat}{v:Value}{L:List (List Int)}(h:OwnR w base v L)(hB:base'≤base):OwnR w base' v L:=by
  obtain ⟨us,ho,hu⟩:=h
  refine ⟨us,⟨ho.1,?_⟩,fun i hi => ?_⟩
  · rcases ho.2 with h0 | ⟨g,cap,cur,h1,h2,h3⟩
    · exact .inl h0
    · exact .inr ⟨g,cap,cur,h1,by omega,h3⟩
  · obtain ⟨u,h1,h2⟩:=hu i hi
    exact ⟨u,h1,OwnI.later h2 (Below.refl _ _) hB⟩
theorem RetRows.of{L:List (List Int)}{w w':World}{v:Value}(h:OwnR w' w.heap.size v L)(hb:Below w.heap.size w w'):RetRows L w (.returned v) w':=by
  obtain ⟨p,cap,rfl⟩:=h.form
  exact ⟨p,_,cap,rfl,rfl,h,hb⟩

def wonM(c:Cup)(s:Nat):List (List Int):=List.replicate (c.ra.toNat-c.done.length) (wonRace c.sk.toNat s)
theorem replicate_snoc{α:Type}(k:Nat)(x:α):List.replicate k x++[x]=List.replicate (k+1) x:=(List.replicate_succ' ..).symm

set_option maxHeartbeats 2000000 in
set_option maxRecDepth 1000000 in
theorem won_any(c:Cup)(hV:Valid c)(vp vd:Value)(s:Nat)(hs:(s:Int)<c.sk)(w:World)(hp:Ints w vp c.pts)(hd:Rows w vd c.done) :
    Calls Tryz.prog 136 #[deskV c vp vd,.int .i64 s] w (RetRows (wonM c s) w):=by
  obtain ⟨pd,cd,rfl,hd2,hd3,_⟩:=hd.open
  obtain ⟨pp,cp,rfl,hp2,hp3,_⟩:=hp.open
  unfold maxLen at hd3 hp3
  have hra1:=hV.ra1
  have hra2:=hV.ra2
  have hdn:=hV.dn
  obtain ⟨W0,hW0⟩:∃ W0,W0=(w.alloc (deskBox c (.slice pp c.pts.length cp) (.slice pd c.done.length cd))).alloc (.cells #[.int .i64 s] 3):=⟨_,rfl⟩
  have HB0:=hid (show Below w.heap.size w W0 by rw [hW0];exact ((Below.refl _ w).alloc (Nat.le_refl _) _).alloc (by simp) _)
  have HSZ:=hid (show W0.heap.size=w.heap.size+2 by rw [hW0];simp)
  have HD0:=hid (show W0.heap[w.heap.size]? = some (deskBox c (.slice pp c.pts.length cp) (.slice pd c.done.length cd)) by rw [hW0];exact (heap_old _ _ _ (by simp)).trans (heap_alloc_new w _))
  have HS0:=hid (show W0.cell? ⟨w.heap.size+1,0,none⟩=some (.int .i64 s) by rw [hW0];simp)
  have HWR:=hid (fun W hW=>wonRace_any c hV (.slice pp c.pts.length cp) (.slice pd c.done.length cd) s hs W w.heap.size (w.heap.size+1) hW)
  have HWM:=hid (show wonM c s=List.replicate (c.ra.toNat-c.done.length) (wonRace c.sk.toNat s) from rfl)
  have HLR:=hid (wonRace_length c.sk.toNat s)
  obtain ⟨R,hR⟩:∃ R,R=wonRace c.sk.toNat s:=⟨_,rfl⟩
  rw [← hR] at HWR HWM HLR
  obtain ⟨m,hm⟩:∃ m,m=c.ra.toNat-c.done.length:=⟨_,rfl⟩
  rw [← hm] at HWM
  have hm2:c.ra-c.done.length=m:=by omega
  have HM:=hid hm
  clear hp hd hR hm
  obtain ⟨k0,k1,k2,k3,k4⟩:=desk_cells HD0.out
  go_enter Tryz.func136,Tryz.ntmps136
  go_wp2
  rw [← hW0]
  clear k0 k1 k2 k3 k4 hW0
  have hsz0:W0.heap.size=w.heap.size+2:=HSZ.out
  have hBB:=Below.refl W0.heap.size W0
  go_loopw [6,16] (fun o i wr=>∃ (k:Nat),k≤m∧i = .int .i64 k∧OwnR wr W0.heap.size o (List.replicate k R)∧Below W0.heap.size W0 wr) (fun _ i _=>m-(intOf i).toNat)
  case atStart=>exact ⟨0,by omega,rfl,OwnR.nil _ _,hBB⟩
  case round =>
    obtain ⟨k,hk,rfl,ho,hB⟩:=hrel
    obtain ⟨p,cap,rfl⟩:=ho.form
    have hlenr:(List.replicate k R).length=k:=by simp
    have HOR:=hid ho
    obtain ⟨us,ho1,hu1⟩:=ho
    have HO:=hid ho1
    have HU:=hid hu1
    have HB:=hid hB
    have hsz:=hB.size
    have H1:=hid ((hB.block w.heap.size (by omega)).trans HD0.out)
    have H2:=hid ((hB.cell (p:=⟨w.heap.size+1,0,none⟩) (by show w.heap.size+1<_;omega)).trans HS0.out)
    have HCALL:=hid (HWR.out wr H1.out H2.out)
    have hk20:k≤20:=by have:=HM.out;omega
    clear ho1 hu1 hB hBB
    obtain ⟨kl,hkl⟩:∃ kl,kl=(List.replicate k R).length:=⟨_,rfl⟩
    rw [← hkl]
    have HKL:=hid (hkl.trans hlenr)
    rw [← hkl] at HO
    have hkl20:kl≤20:=by omega
    clear hkl hlenr
    by_cases hlt:k<m
    · go_wp2_with (first
        | (go_at_call 170;refine HCALL.out.mono ?_;clear HCALL;rintro e w1 ⟨rp,rn,rcap,rfl,hrn,hro,hb1⟩;have HRN:=hid hrn;have HRO:=hid (OwnI.later hro (Below.refl _ _) hsz);have HB1:=hid hb1;have HO1:=hid (own_later HO.out hb1);have hsz1:=hb1.size;clear hrn hro hb1)
        | (at_builtin;((with_reducible apply wpL_append1 (hown:=HO1.out.alloc _) (ht:=Tryz.underlying23) (hinfo:=info22z) (news:=[.slice rp rn rcap]));rfl;omega;rfl;rfl;rfl;(intro j u hu;cases j with | zero=>(simp only [List.getElem?_cons_zero,Option.some.injEq] at hu;subst hu;simp) | succ j=>simp at hu);(intro u hu;simp only [List.mem_singleton] at hu;subst hu;rfl);omega;omega;(simp;omega);intro g' n' cap' w' hn' hn'1 hn'2 ho' hg';have HO':=hid ho';have HG':=hid hg';have HN':=hid hn';clear ho' hg' hn')))
      go_roundw
      case rel =>
        have ho2:=HO'.out
        have hal:Below w1.heap.size w1 (w1.alloc (.cells #[.slice rp rn rcap] 22)):=(Below.refl _ w1).alloc (Nat.le_refl _) _
        have hkl:=HKL.out
        refine ⟨k+1,by omega,by go_num,?_,((HB.out.trans (HB1.out.mono hsz)).alloc (by omega) _).grown HG'.out (by simp;omega) (fun q hq=>(HO.out.lt q hq).1)⟩
        rw [← replicate_snoc]
        have hl:(List.replicate k R).length=kl:=by rw [List.length_replicate,hkl]
        have e1:n'=(List.replicate k R).length+1:=by omega
        rw [e1] at ho2 ⊢
        refine OwnR.snoc (us:=us) (w:=w1.alloc (.cells #[.slice rp rn rcap] 22)) (v := .slice p kl cap) (u := .slice rp rn rcap) (by rw [hl];exact HO1.out.alloc _) (fun i hi => ?_) ?_ ho2 HG'.out
        · obtain ⟨u,h1,h2⟩:=HU.out i hi
          exact ⟨u,h1,own_later (own_later h2 HB1.out) hal⟩
        · exact own_later HRO.out hal
      case measure=>simp [intOf];omega
    · have HK:=hid (show k=m by omega)
      go_wp2
      go_ret
      have h3:=HOR.out
      rw [HK.out,← HWM.out] at h3
      have e:kl=(wonM c s).length:=by rw [HWM.out,List.length_replicate,← HK.out];exact HKL.out
      rw [e]
      exact RetRows.of (OwnR.base h3 (by omega)) (HB0.out.trans (HB.out.mono (by omega)))
end KL
end Go.Proofs
end
section
namespace Go.Proofs
open Go.RowKit Go.Lib Go.Sort
namespace KL

def Real(v:Value):Prop:=∀ n cap,v = .slice none n cap→cap=0

theorem Rows.values{w:World}{p:Option Addr}{n cap:Nat}{L:List (List Int)}(h:Rows w (.slice p n cap) L):∃ us:List Value,us.length=L.length∧n=L.length ∧
    (∀ j u,us[j]? = some u→∃ b o,p=some ⟨b,o,none⟩∧w.cell? ⟨b,o+j,none⟩=some u)∧(∀ i (hi:i<L.length),∃ u,us[i]? = some u∧Ints w u L[i])∧(∀ u∈us,u.oneCell'=true):=by
  obtain ⟨p',cap',he,h1,h2,h3⟩:=h
  injection he with e1 e2 e3
  subst e1 e2 e3
  have hex:∀ i:Fin L.length,∃ u,(∃ b o,p=some ⟨b,o,none⟩∧w.cell? ⟨b,o+i.val,none⟩=some u)∧Ints w u L[i.val]:=fun i=>by
    obtain ⟨b,o,u,hp,hc,hu⟩:=h3 i.val i.isLt
    exact ⟨u,⟨b,o,hp,hc⟩,hu⟩
  let f:Fin L.length→Value:=fun i=>Classical.choose (hex i)
  have hf:∀ i,(∃ b o,p=some ⟨b,o,none⟩∧w.cell? ⟨b,o+i.val,none⟩=some (f i))∧Ints w (f i) L[i.val]:=fun i=>Classical.choose_spec (hex i)
  refine ⟨List.ofFn f,by simp,rfl,fun j u hu => ?_,fun i hi=>⟨f ⟨i,hi⟩,by simp [List.getElem?_ofFn,hi],(hf ⟨i,hi⟩).2⟩,fun u hu => ?_⟩
  · rw [List.getElem?_ofFn] at hu
    split at hu
    · rename_i hj
      cases hu
      exact (hf ⟨j,hj⟩).1
    · cases hu
  · obtain ⟨i,rfl⟩:=(List.mem_ofFn).1 hu
    obtain ⟨q,qc,e,_⟩:=(hf i).2
    rw [e];rfl

section
variable {P:Program} {ops:Array Oper} {rest:List Oper} {dst:Option Tmp} {ty:TypeId} {pos:String} {af:Array Edge} {a:Act} {w:World} {Q:Exit→Act→World→Prop}

theorem own_take{w:World}{z:Value}{n m base:Nat}{e:TypeId}(hb:base≤w.heap.size)(hn:n+m≤1000) :
    (w.alloc (.cells (madeCells #[z] (n+m)) e)).ownsRow base e 1 (.slice (some ⟨w.heap.size,0,none⟩) n (n+m)) n (List.replicate n z):=by
  refine ⟨by simp,.inr ⟨w.heap.size,n+m,_,rfl,hb,heap_alloc_new w _,by omega,by unfold maxLen;omega,by rw [size_madeCells];omega,?_⟩⟩
  rw [toList_madeCells_one,List.take_replicate]
  congr 1
  omega

theorem wpL_makeNils{t:TypeId}{x y:Operand}{n m:Nat}{C:Int}(base:Nat)(ht:P.underlying t=some (.slice 22))(hinfo:(P.info? 22).map (fun i=>(i.zero,i.size,i.bytes))=some (some (.slice none 0 0),1,24))
    (hx:a.eval x = .int .i64 n) (hy:a.eval y = .int .i64 C) (hC:C=((n+m:Nat):Int)) (hn:n+m≤1000) (hb:base≤w.heap.size)
    (h:∀ w',w'.ownsRow base 22 1 (.slice (some ⟨w.heap.size,0,none⟩) n (n+m)) n (List.replicate n (.slice none 0 0))→w.grownBy w' none→wpList P ops Q rest (a.put dst (.slice (some ⟨w.heap.size,0,none⟩) n (n+m))) w') :
    wpList P ops Q ({ dst:=dst,op := .makeSlice t x y,type:=ty,pos:=pos,after:=af,guard:=none }::rest) a w:=by
  obtain ⟨i,hi,hz,hz1,hz2⟩:=info_parts hinfo
  subst hC
  refine wpList_plain rfl fun K hK => ?_
  have hr:=run_make (P:=P) w t 22 i (.slice none 0 0) ht hi hz .i64 .i64 n ((n+m:Nat):Int) (by omega) (by omega) (by rw [hz2];omega) (by omega)
  rw [hz1,Nat.mul_one,Int.toNat_natCast,Int.toNat_natCast] at hr
  unfold Oper.wp
  simp only [execOp,hx,hy,Sem.run_bind,hr,Result.andThen_ok]
  exact hK _ _ (h _ (own_take hb hn) (World.grownBy_alloc w _ none))

theorem wpL_copyRows{d s:Operand}{base g n cap scap:Nat}{sp:Option Addr}{xs us:List Value}(hu:P.underlying 23=some (.slice 22))(hsz:(P.info? 22).map (·.size)=some 1)
    (hown:w.ownsRow base 22 1 (.slice (some ⟨g,0,none⟩) n cap) n xs) (hd:a.eval d = .slice (some ⟨g,0,none⟩) n cap) (hs:a.eval s = .slice sp n scap) (hl:us.length=n)
    (hsrc:∀ j u,us[j]? = some u→∃ b o,sp=some ⟨b,o,none⟩∧w.cell? ⟨b,o+j,none⟩=some u) (h1:∀ u∈us,u.oneCell'=true)
    (h:∀ w',w'.ownsRow base 22 1 (.slice (some ⟨g,0,none⟩) n cap) n us→w.grownBy w' (some g)→wpList P ops Q rest (a.put dst (goInt n)) w') :
    wpList P ops Q ({ dst:=dst,op := .call { callee := .builtin .copy,args := #[d,s],argTypes := #[23,23] },type:=ty,pos:=pos,after:=af,guard:=none }::rest) a w:=by
  rcases hown.2 with ⟨h0,_⟩ | ⟨g',cap',cur,h0,hb,hg,hnc,hcm,hcs,htake⟩
  · cases h0
  · simp only [Value.slice.injEq,Option.some.injEq,Addr.mk.injEq,and_true,true_and] at h0
    obtain ⟨rfl,rfl⟩:=h0
    rw [Nat.mul_one] at hcs htake
    by_cases hn0:n=0
    · subst hn0
      refine wpList_copy_nothing rfl d s 23 23 rfl 22 hu hsz _ sp 0 cap 0 scap hd hs (by simp) ?_
      obtain rfl:us=[]:=List.eq_nil_of_length_eq_zero hl
      have hx:xs=[]:=List.eq_nil_of_length_eq_zero (by simpa using hown.1)
      subst hx
      exact h w hown (World.grownBy.refl _ _)
    · obtain ⟨b,o,rfl,_⟩:=hsrc 0 us[0] (by rw [List.getElem?_eq_getElem])
      refine wpList_copy_own rfl d s 23 23 rfl 22 hu hsz g 0 n cap ⟨b,o,none⟩ n scap hd hs cur 22 hg us (by simp [hl]) (fun j v hv => ?_) (by omega) h1 ?_
      · obtain ⟨b',o',e,hc⟩:=hsrc j v hv
        cases e
        rw [Addr.add_lit]
        exact hc
      · rw [hl]
        refine h _ ⟨by simpa using hl,.inr ⟨g,cap,_,rfl,hb,setRow_heap w g _ _ 22 _ hg,hnc,hcm,?_,?_⟩⟩ ⟨rfl,rfl,rfl,by simp [World.setRow],fun k _ hk=>setRow_other w g k _ (fun e=>hk (by rw [e]))⟩
        · simp [hl];omega
        · simp [hl]
end
end KL
end Go.Proofs
end
section
namespace Go.Proofs
open Go.RowKit Go.Lib Go.Sort
namespace KL

theorem info22s:(Tryz.prog.info? 22).map (·.size)=some 1:=by kernel_rfl

structure Wth (c:Cup) (vp vd xp xd:Value) (w W:World):Prop where
  bel:Below w.heap.size w W
  desk:W.heap[w.heap.size]? = some (deskBox c vp vd)
  res:W.heap[w.heap.size+1]? = some (.cells deskZ 129 (0,0))
  cup:W.heap[w.heap.size+2]? = some (.cells #[.int .i64 c.sk,.int .i64 c.ra,.int .i64 c.be,xp,xd] 25 (0,0))

theorem Wth.lt{c:Cup}{vp vd xp xd:Value}{w W:World}(h:Wth c vp vd xp xd w W):w.heap.size+3≤W.heap.size:=lt_of_block h.cup
theorem Wth.grow{c:Cup}{vp vd xp xd:Value}{w W W':World}{row:Option Nat}(h:Wth c vp vd xp xd w W)(hg:W.grownBy W' row)(hr:∀ q,row=some q→w.heap.size+3≤q):Wth c vp vd xp xd w W':=by
  have hl:=h.lt
  have hne:∀ k,k<w.heap.size+3→some k≠row:=fun k hk e=>by have:=hr k e.symm;omega
  exact ⟨h.bel.grown hg h.bel.size (fun q hq=>by have:=hr q hq;omega),(hg.block _ (by omega) (hne _ (by omega))).trans h.desk,(hg.block _ (by omega) (hne _ (by omega))).trans h.res,(hg.block _ (by omega) (hne _ (by omega))).trans h.cup⟩
theorem Wth.setp{c:Cup}{vp vd xp xd:Value}{w W:World}(h:Wth c vp vd xp xd w W)(u:Value):Wth c vp vd u xd w (W.setCell ⟨w.heap.size+2,3,none⟩ u):=by
  have hg:=grown_set W (w.heap.size+2) 3 u
  have hl:=h.lt
  exact ⟨h.bel.grown hg h.bel.size (fun q hq=>by cases hq;omega),(hg.block _ (by omega) (by simp)).trans h.desk,(hg.block _ (by omega) (by simp)).trans h.res,heap_setCell_same _ _ _ _ _ _ h.cup⟩
theorem Wth.setd{c:Cup}{vp vd xp xd:Value}{w W:World}(h:Wth c vp vd xp xd w W)(u:Value):Wth c vp vd xp u w (W.setCell ⟨w.heap.size+2,4,none⟩ u):=by
  have hg:=grown_set W (w.heap.size+2) 4 u
  have hl:=h.lt
  exact ⟨h.bel.grown hg h.bel.size (fun q hq=>by cases hq;omega),(hg.block _ (by omega) (by simp)).trans h.desk,(hg.block _ (by omega) (by simp)).trans h.res,heap_setCell_same _ _ _ _ _ _ h.cup⟩
theorem Wth.cells{c:Cup}{vp vd xp xd:Value}{w W:World}(h:Wth c vp vd xp xd w W) :
    (W.cell? ⟨w.heap.size,0,none⟩=some (.int .i64 c.sk)∧W.cell? ⟨w.heap.size,1,none⟩=some (.int .i64 c.ra)∧W.cell? ⟨w.heap.size,2,none⟩=some (.int .i64 c.be)∧W.cell? ⟨w.heap.size,3,none⟩=some vp∧W.cell? ⟨w.heap.size,4,none⟩=some vd) ∧
    (W.cell? ⟨w.heap.size+2,0,none⟩=some (.int .i64 c.sk)∧W.cell? ⟨w.heap.size+2,1,none⟩=some (.int .i64 c.ra)∧W.cell? ⟨w.heap.size+2,2,none⟩=some (.int .i64 c.be)∧W.cell? ⟨w.heap.size+2,3,none⟩=some xp∧W.cell? ⟨w.heap.size+2,4,none⟩=some xd) ∧
    (∀ o,W.frozen? ⟨w.heap.size+2,o,none⟩=false):=by
  refine ⟨desk_cells h.desk,⟨?_,?_,?_,?_,?_⟩,fun o=>frozen_of_row _ _ o _ _ h.cup⟩ <;> rw [cell_of_row _ _ _ _ _ _ h.cup] <;> rfl

theorem own_set{w:World}{base n g b o:Nat}{e:TypeId}{cap:Nat}{xs:List Value}{u:Value}(h:w.ownsRow base e 1 (.slice (some ⟨g,0,none⟩) n cap) n xs)(hb:b<base):(w.setCell ⟨b,o,none⟩ u).ownsRow base e 1 (.slice (some ⟨g,0,none⟩) n cap) n xs :=
  h.kept (grown_set w b o u) (by
    right
    have:=(h.lt g rfl).1
    simp [Value.ownBlock];omega)
theorem ownv_set{w:World}{base n b o:Nat}{e:TypeId}{v:Value}{xs:List Value}{u:Value}(h:w.ownsRow base e 1 v n xs)(hb:b<base):(w.setCell ⟨b,o,none⟩ u).ownsRow base e 1 v n xs :=
  h.kept (grown_set w b o u) (by
    by_cases hv:v.ownBlock=none
    · exact .inl hv
    · right
      intro e
      have:=(h.lt b e).1
      omega)

theorem wth_start(c:Cup)(vp vd:Value)(w:World):Wth c vp vd vp vd w (((w.alloc (deskBox c vp vd)).alloc (.cells deskZ 129)).alloc (.cells #[.int .i64 c.sk,.int .i64 c.ra,.int .i64 c.be,vp,vd] 25)):=by
  refine ⟨(((Below.refl _ w).alloc (Nat.le_refl _) _).alloc (by simp) _).alloc (by simp;omega) _,?_,?_,?_⟩
  · exact (heap_old _ _ _ (by simp;omega)).trans ((heap_old _ _ _ (by simp)).trans (heap_alloc_new w _))
  · refine (heap_old _ _ _ (by simp)).trans ?_
    have:=heap_alloc_new (w.alloc (deskBox c vp vd)) (.cells deskZ 129)
    simpa using this
  · have:=heap_alloc_new ((w.alloc (deskBox c vp vd)).alloc (.cells deskZ 129)) (.cells #[.int .i64 c.sk,.int .i64 c.ra,.int .i64 c.be,vp,vd] 25)
    simpa using this

section
variable {P:Program} {ops:Array Oper} {rest:List Oper} {dst:Option Tmp} {ty:TypeId} {pos:String} {af:Array Edge} {a:Act} {w:World} {Q:Exit→Act→World→Prop}
theorem wpL_appendRows{s x:Operand}{base g n m cap scap:Nat}{sp:Option Addr}{us xs:List Value}(hu:P.underlying 23=some (.slice 22))(hinfo:(P.info? 22).map (fun i=>(i.zero,i.size,i.bytes))=some (some (.slice none 0 0),1,24))
    (hown:w.ownsRow base 22 1 (.slice (some ⟨g,0,none⟩) n cap) n us) (hs:a.eval s = .slice (some ⟨g,0,none⟩) n cap) (hx:a.eval x = .slice sp m scap) (hl:xs.length=m) (hreal:Real (.slice sp m scap)) (hcap:n+m≤cap)
    (hsrc:∀ j u,xs[j]? = some u→∃ b o,sp=some ⟨b,o,none⟩∧w.cell? ⟨b,o+j,none⟩=some u) (h1:∀ u∈xs,u.oneCell'=true)
    (h:∀ w',w'.ownsRow base 22 1 (.slice (some ⟨g,0,none⟩) (n+m) cap) (n+m) (us++xs)→w.grownBy w' (some g)→wpList P ops Q rest (a.put dst (.slice (some ⟨g,0,none⟩) (n+m) cap)) w') :
    wpList P ops Q ({ dst:=dst,op := .call { callee := .builtin .append,args := #[s,x],argTypes := #[23,23] },type:=ty,pos:=pos,after:=af,guard:=none }::rest) a w:=by
  obtain ⟨i,hi,hz,hz1,hz2⟩:=info_parts hinfo
  refine wpList_append_fits_any w rfl s x 23 rfl base 22 i 1 hu hi hz1 g n cap us hs hown sp m scap xs hx (by omega) (fun e=>⟨?_,?_⟩) (fun ad e j u hj => ?_) h1 hcap h
  · cases xs with
    | nil=>exact hl.symm
    | cons y ys=>obtain ⟨b,o,h0,_⟩:=hsrc 0 y rfl;rw [e] at h0;cases h0
  · exact hreal m scap (by rw [e])
  · obtain ⟨b,o,h0,hc⟩:=hsrc j u hj
    rw [e] at h0
    cases h0
    rw [Addr.add_lit]
    exact hc
end

set_option maxHeartbeats 4000000 in
set_option maxRecDepth 1000000 in
theorem with_any(c:Cup)(vp vd vf:Value)(f:List (List Int))(w:World)(hp:Ints w vp c.pts)(hd:Rows w vd c.done)(hf:Rows w vf f)(hreal:Real vf)
    (hpl:c.pts.length≤1000) (hdl:c.done.length+f.length≤1000) (hrl:∀ r∈c.done++f,r.length≤1000) :
    Calls Tryz.prog 118 #[deskV c vp vd,vf] w fun e w'=>∃ xp xd,e = .returned (deskV c xp xd)∧OwnI w' w.heap.size xp c.pts∧OwnR w' w.heap.size xd (c.done++f)∧Below w.heap.size w w':=by
  have HP:=hid (fun W (hW:Below w.heap.size w W)=>clone_own vp c.pts W (ints_below hp hW) hpl)
  obtain ⟨pd,cd,rfl,hd2,hd3,_⟩:=hd.open
  obtain ⟨pp,cp,rfl,hp2,hp3,_⟩:=hp.open
  obtain ⟨pf,cf,rfl,hf2,hf3,_⟩:=hf.open
  unfold maxLen at hd3 hp3 hf3
  obtain ⟨us,hus1,_,hus3,hus4,hus5⟩:=Rows.values hd
  obtain ⟨xs,hxs1,_,hxs3,hxs4,hxs5⟩:=Rows.values hf
  have HU:=hid (And.intro hus1 (And.intro hus3 (And.intro hus4 hus5)))
  have HX:=hid (And.intro hxs1 (And.intro hxs3 (And.intro hxs4 hxs5)))
  obtain ⟨n,hn⟩:∃ n,n=c.done.length:=⟨_,rfl⟩
  obtain ⟨m,hm⟩:∃ m,m=f.length:=⟨_,rfl⟩
  rw [← hn] at hdl hd2
  rw [← hm] at hdl hf2 hreal
  have HN:=hid hn
  have HM:=hid hm
  have HR:=hid hreal
  have HW2:=hid (wth_start c (.slice pp c.pts.length cp) (.slice pd n cd) w)
  rw [← hn,← hm]
  clear hus1 hus3 hus4 hus5 hxs1 hxs3 hxs4 hxs5 hp hd hf hreal hn hm
  have HPX:Hid (∀ W,Below w.heap.size w W→Calls Tryz.prog 150 #[.slice pp c.pts.length cp] W (RetOwn c.pts W)):=HP
  clear HP
  go_enter Tryz.func118,Tryz.ntmps118
  go_wp2_with (first
    | (go_at_call 150;refine (HPX.out _ HW2.out.bel).mono ?_;rintro e w3 ⟨p3,n3,c3,rfl,hn3,ho3,hb3⟩;have HN3:=hid hn3;have HO3:=hid ho3;have HW3:=hid (HW2.out.grow (grown_of_below hb3 none) (fun q hq=>by cases hq));clear hn3 ho3;obtain ⟨⟨k0,k1,k2,k3,k4⟩,⟨j0,j1,j2,j3,j4⟩,jf⟩:=HW3.out.cells;have jf3:=jf 3;have jf4:=jf 4)
    | ((with_reducible apply wpL_makeNils (n:=n) (m:=m) (w.heap.size+3) (ht:=Tryz.underlying23) (hinfo:=info22z));rfl;rfl;(exact (Int.natCast_add n m).symm);exact hdl;(have hlt3:=HW3.out.lt;simp only [World.size_setCell];exact hlt3)
       intro w5 ho5 hg5;rw [World.size_setCell] at ho5;have HO5:=hid ho5;have HW5:=hid ((HW3.out.setp (.slice p3 n3 c3)).grow hg5 (fun q hq=>by cases hq));have HOP:=hid (ownv_set (u := .slice p3 n3 c3) (b:=w.heap.size+2) (o:=3) HO3.out (by have:=HW2.out.lt;omega));have HG5:=hid hg5;clear ho5 hg5 k0 k1 k2 k3 k4 j0 j1 j2 j3 j4 jf jf3 jf4;obtain ⟨⟨k0,k1,k2,k3,k4⟩,⟨j0,j1,j2,j3,j4⟩,jf⟩:=HW5.out.cells;have jf3:=jf 3;have jf4:=jf 4)
    | ((with_reducible apply wpL_copyRows (hu:=Tryz.underlying23) (hsz:=info22s) (hown:=own_set (u := .slice (some ⟨w3.heap.size,0,none⟩) n (n+m)) (b:=w.heap.size+1+1) (o:=4) HO5.out (by omega)) (us:=us) (h1:=HU.out.2.2.2));rfl;rfl;(rw [HN.out];exact HU.out.1)
       (intro j u hu;obtain ⟨b,o,e,hc⟩:=HU.out.2.1 j u hu;exact ⟨b,o,e,((HW5.out.setd _).bel.cell (p:=⟨b,o+j,none⟩) (World.block_lt_of_cell? w _ hc)).trans hc⟩)
       intro w6 ho6 hg6;have HO6:=hid ho6;have HG6:=hid hg6;have HW6:=hid ((HW5.out.setd (.slice (some ⟨w3.heap.size,0,none⟩) n (n+m))).grow hg6 (fun q hq=>by cases hq;exact HW3.out.lt));clear ho6 hg6 k0 k1 k2 k3 k4 j0 j1 j2 j3 j4 jf jf3 jf4;obtain ⟨⟨k0,k1,k2,k3,k4⟩,⟨j0,j1,j2,j3,j4⟩,jf⟩:=HW6.out.cells;have jf3:=jf 3;have jf4:=jf 4)
    | ((with_reducible apply wpL_appendRows (hu:=Tryz.underlying23) (hinfo:=info22z) (hown:=HO6.out) (xs:=xs) (hreal:=HR.out) (h1:=HX.out.2.2.2));rfl;rfl;(rw [HM.out];exact HX.out.1);exact Nat.le_refl _
       (intro j u hu;obtain ⟨b,o,e,hc⟩:=HX.out.2.1 j u hu;exact ⟨b,o,e,(HW6.out.bel.cell (p:=⟨b,o+j,none⟩) (World.block_lt_of_cell? w _ hc)).trans hc⟩)
       intro w7 ho7 hg7;have HO7:=hid ho7;have HG7:=hid hg7;have HW7:=hid (HW6.out.grow hg7 (fun q hq=>by cases hq;exact HW3.out.lt));clear ho7 hg7 k0 k1 k2 k3 k4 j0 j1 j2 j3 j4 jf jf3 jf4;obtain ⟨⟨k0,k1,k2,k3,k4⟩,⟨j0,j1,j2,j3,j4⟩,jf⟩:=HW7.out.cells;have jf3:=jf 3;have jf4:=jf 4))
  clear k0 k1 k2 k3 k4 j0 j1 j2 j3 j4 jf jf3 jf4
  have HP5:=hid (World.ownsRow.kept HOP.out HG5.out (Classical.em _))
  have HP5':=hid (ownv_set (u := .slice (some ⟨w3.heap.size,0,none⟩) n (n+m)) (b:=w.heap.size+1+1) (o:=4) HP5.out (by have:=HW2.out.lt;omega))
  have HP6:=hid (World.ownsRow.kept HP5'.out HG6.out (own_apart HP5'.out (own_set (b:=w.heap.size+1+1) (o:=4) (u := .slice (some ⟨w3.heap.size,0,none⟩) n (n+m)) HO5.out (by omega)) (by decide)))
  have HP7:=hid (World.ownsRow.kept HP6.out HG7.out (own_apart HP6.out HO6.out (by decide)))
  obtain ⟨g,hg⟩:∃ g,g=w3.heap.size:=⟨_,rfl⟩
  obtain ⟨N,hN⟩:∃ N,N=n+m:=⟨_,rfl⟩
  rw [← hg,← hN] at HO7
  have hgl:w.heap.size+3≤g:=by have:=HW3.out.lt;omega
  have HP8:=hid (ownv_set (u := .slice (some ⟨g,0,none⟩) N N) (b:=w.heap.size+1+1) (o:=4) HP7.out (by have:=HW2.out.lt;omega))
  have HO8:=hid (own_set (u := .slice (some ⟨g,0,none⟩) N N) (b:=w.heap.size+1+1) (o:=4) HO7.out (by omega))
  have HW8:=hid (HW7.out.setd (.slice (some ⟨g,0,none⟩) N N))
  have hNi:(n:Int)+m=N:=by omega
  rw [← hg,← hN,hNi]
  have HPB:=hid (show w.heap.size+3≤(((w.alloc (deskBox c (.slice pp c.pts.length cp) (.slice pd n cd))).alloc (.cells deskZ 129)).alloc (.cells #[.int .i64 c.sk,.int .i64 c.ra,.int .i64 c.be,.slice pp c.pts.length cp,.slice pd n cd] 25)).heap.size from HW2.out.lt)
  have hN1000:N≤1000:=by omega
  obtain ⟨W8,hW8⟩:∃ W8,W8=w7.setCell ⟨w.heap.size+1+1,4,none⟩ (.slice (some ⟨g,0,none⟩) N N):=⟨_,rfl⟩
  have HP9:Hid (W8.ownsRow (w.heap.size+3) 3 1 (.slice p3 n3 c3) c.pts.length (c.pts.map (Value.int .i64))):=hid (by
    rw [hW8];exact OwnI.later (l:=c.pts) HP8.out (Below.refl _ _) HPB.out)
  have HO9:Hid (W8.ownsRow (w.heap.size+3) 22 1 (.slice (some ⟨g,0,none⟩) N N) N (us++xs)):=hid (by rw [hW8];exact HO8.out)
  have HW9:Hid (Wth c (.slice pp c.pts.length cp) (.slice pd n cd) (.slice p3 n3 c3) (.slice (some ⟨g,0,none⟩) N N) w W8):=hid (by rw [hW8];exact HW8.out)
  rw [← hW8]
  have HNM:=hid hN
  clear HP5 HP5' HP6 HP7 HP8 HO8 HW8 HOP HO3 HO5 HO6 HO7 HG5 HG6 HG7 HW2 HW3 HW5 HW6 HW7 HPB hW8 hg hN hNi
  have hBB:=Below.refl (w.heap.size+3) W8
  go_loopw [42] (fun i wr=>∃ (k:Nat) (vs:List Value),k≤N∧i = .int .i64 k∧wr.ownsRow (w.heap.size+3) 22 1 (.slice (some ⟨g,0,none⟩) N N) N vs∧wr.ownsRow (w.heap.size+3) 3 1 (.slice p3 n3 c3) c.pts.length (c.pts.map (Value.int .i64)) ∧
      (∀ j,j<k→∃ u,vs[j]? = some u∧OwnI wr (w.heap.size+3) u ((c.done++f).getD j []))∧(∀ j,k≤j→vs[j]? = (us++xs)[j]?)∧Below (w.heap.size+3) W8 wr) (fun i _=>N-(intOf i).toNat)
  case atStart=>exact ⟨0,us++xs,by omega,rfl,HO9.out,HP9.out,fun j hj=>absurd hj (by omega),fun j _=>rfl,hBB⟩
  case round =>
    obtain ⟨k,vs,hk,rfl,ho,hpo,hdone,hraw,hB⟩:=hrel
    have HO:=hid ho
    have HPO:=hid hpo
    have HDN:=hid hdone
    have HRAW:=hid hraw
    have HB:=hid hB
    have hl8:=HW9.out.lt
    have hsz:=hB.size
    have HC5:=hid ((hB.block (w.heap.size+2) (by omega)).trans HW9.out.cup)
    clear ho hpo hdone hraw hB hBB
    by_cases hlt:k<N
    · have hel:∃ u,(us++xs)[k]? = some u∧Ints w u ((c.done++f).getD k []):=by
        have h1:=HU.out.1
        have h2:=HX.out.1
        by_cases hk1:k<c.done.length
        · obtain ⟨u,h3,h4⟩:=HU.out.2.2.1 k hk1
          refine ⟨u,by rw [List.getElem?_append_left (by omega)];exact h3,?_⟩
          rw [List.getD_eq_getElem?_getD,List.getElem?_append_left hk1,List.getElem?_eq_getElem hk1]
          exact h4
        · have hnn:=HN.out
          have hmm:=HM.out
          have hnm:=HNM.out
          obtain ⟨u,h3,h4⟩:=HX.out.2.2.1 (k-c.done.length) (by omega)
          refine ⟨u,by rw [List.getElem?_append_right (by omega),h1];exact h3,?_⟩
          rw [List.getD_eq_getElem?_getD,List.getElem?_append_right (by omega),List.getElem?_eq_getElem (by omega)]
          exact h4
      obtain ⟨u,hu1,hu2⟩:=hel
      have hu1':vs[k]? = some u:=(HRAW.out k (Nat.le_refl _)).trans hu1
      have hbw:Below w.heap.size w wr:=HW9.out.bel.trans (HB.out.mono (by omega))
      have hue:=ints_below hu2 hbw
      have hrl1:((c.done++f).getD k []).length≤1000:=by
        by_cases hkk:k<(c.done++f).length
        · rw [List.getD_eq_getElem?_getD,List.getElem?_eq_getElem hkk]
          exact hrl _ (by simp)
        · rw [List.getD_eq_getElem?_getD,List.getElem?_eq_none (by omega)];simp
      have HCL:=hid (fun W (hW:Below wr.heap.size wr W)=>clone_own u _ W (ints_below hue hW) hrl1)
      have cu:wr.cell? ⟨g,k,none⟩=some u:=by
        rw [World.ownsRow.cellAt HO.out k (by omega)];exact hu1'
      obtain ⟨q,qc,rfl,hq1,hq2,_⟩:=hue.open
      obtain ⟨L,hL⟩:∃ L,L=(c.done++f).getD k []:=⟨_,rfl⟩
      rw [← hL] at HCL hq1 cu hu1'
      have hq3:(L.length:Int)≤1000:=by rw [hL];omega
      have HLE:=hid hL
      unfold maxLen at hq2
      have hki:(k:Int)<N:=by omega
      have d4:wr.cell? ⟨w.heap.size+1+1,4,none⟩=some (.slice (some ⟨g,0,none⟩) N N):=by rw [show w.heap.size+1+1=w.heap.size+2 from rfl,cell_of_row _ _ _ _ _ _ HC5.out];rfl
      have l4:=later_cellB (B:=w.heap.size+3) d4 (by omega)
      clear hu1 hu1' hu2 hue hL hbw d4 hrl1
      go_wp2
      refine wp_region_S (w.heap.size+3) [0,1,2,3] [4,5,6] (by kernel_rfl) (by kernel_rfl) (by intro d v c a1 w1 h;cases d <;> exact h) (fun w0 hb0 he0 => ?_)
      simp only [List.filterMap_cons,List.filterMap_nil,List.getElem?_cons_zero,List.getElem?_cons_succ]
      change wpQuiet _ _ _ (fun a'=>wpSeq _ _ _ _ (_::_::_::[]) a' w0) (_::_::_::_::[]) _
      repeat (go_big_quiet_step ((go_at_call 150;fail)))
      refine wpQuiet_nil ?_
      have HB0:=hid hb0
      change wpList _ _ (Exit.then _ _) (_::[]) _ w0
      go_wp2_with (go_at_call 150;refine (HCL.out _ HB0.out).mono ?_;rintro e w4 ⟨p4,n4,c4,rfl,hn4,ho4,hb4⟩;have HN4:=hid hn4;have HO4:=hid ho4;have HB4:=hid hb4;clear hn4 ho4 hb4)
      have hbw4:Below wr.heap.size wr w4:=HB0.out.trans (HB4.out.mono HB0.out.size)
      have HBW4:=hid hbw4
      refine ⟨⟨⟨w4,hbw4.mono (by omega)⟩,rfl⟩,?_⟩
      change wpList _ _ (Exit.then _ _) (_::[]) _ w4
      have HOW:=hid (own_later HO.out hbw4)
      have HPW:=hid (own_later HPO.out hbw4)
      have cu4:w4.cell? ⟨g,k,none⟩=some (.slice q L.length qc):=(hbw4.cell (p:=⟨g,k,none⟩) (World.block_lt_of_cell? wr _ cu)).trans cu
      have fu4:w4.frozen? ⟨g,k,none⟩=false:=by
        rcases HOW.out.2 with ⟨h0,_⟩ | ⟨g',cap',cur,h0,_,hgg,_⟩
        · cases h0
        · cases h0
          exact frozen_of_row _ _ k _ _ hgg
      have hszw4:=hbw4.size
      clear hbw4 he0 hb0 l4
      go_wp2
      refine ⟨⟨⟨w4,HBW4.out.mono (by omega)⟩,rfl⟩,?_⟩
      change wpList _ _ (Exit.then _ _) (_::[]) _ w4
      go_wp2
      obtain ⟨hst,hgr⟩:=World.ownsRow.stored HOW.out k (.slice p4 n4 c4)
      have hbs:Below (w.heap.size+3) wr (w4.setCell ⟨g,k,none⟩ (.slice p4 n4 c4)):=(HBW4.out.mono (by omega)).grown hgr (by omega) (fun q hq=>by cases hq;omega)
      refine ⟨⟨⟨_,hbs⟩,rfl⟩,?_⟩
      have HST:=hid hst
      have HGR:=hid hgr
      have HBS:=hid hbs
      clear hst hgr hbs cu cu4 fu4
      change (Exit.inBlock _ (Exit.then _ _)) Exit.normal _ _
      go_wp2
      go_roundw
      case rel =>
        have hvl:vs.length=N:=by simpa using HO.out.1
        have hne:=own_apart HPW.out HOW.out (by decide)
        have hkeep:∀ {x:Value} {X:List Int},OwnI wr (w.heap.size+3) x X→OwnI (w4.setCell ⟨g,k,none⟩ (.slice p4 n4 c4)) (w.heap.size+3) x X:=fun h =>
          World.ownsRow.kept (own_later h HBW4.out) HGR.out (own_apart (own_later h HBW4.out) HOW.out (by decide))
        refine ⟨k+1,vs.set k (.slice p4 n4 c4),by omega,by go_num,HST.out,World.ownsRow.kept HPW.out HGR.out hne,fun j hj => ?_,fun j hj => ?_,HB.out.trans HBS.out⟩
        · by_cases hjk:j=k
          · subst hjk
            refine ⟨.slice p4 n4 c4,by simp [hvl,hlt],?_⟩
            rw [← HLE.out]
            have h4:OwnI w4 (w.heap.size+3) (.slice p4 n4 c4) L:=OwnI.later HO4.out (Below.refl _ _) (by have:=HB0.out.size;omega)
            exact World.ownsRow.kept h4 HGR.out (own_apart h4 HOW.out (by decide))
          · obtain ⟨u,h1,h2⟩:=HDN.out j (by omega)
            exact ⟨u,by rw [List.getElem?_set_ne (by omega)];exact h1,hkeep h2⟩
        · rw [List.getElem?_set_ne (by omega)]
          exact HRAW.out j (by omega)
      case measure=>simp [intOf];omega
    · have HKN:=hid (show k=N by omega)
      have HRES:=hid ((HB.out.block (w.heap.size+1) (by omega)).trans HW9.out.res)
      have c50:wr.cell? ⟨w.heap.size+1+1,0,none⟩=some (.int .i64 c.sk):=by rw [show w.heap.size+1+1=w.heap.size+2 from rfl,cell_of_row _ _ _ _ _ _ HC5.out];rfl
      have c51:wr.cell? ⟨w.heap.size+1+1,1,none⟩=some (.int .i64 c.ra):=by rw [show w.heap.size+1+1=w.heap.size+2 from rfl,cell_of_row _ _ _ _ _ _ HC5.out];rfl
      have c52:wr.cell? ⟨w.heap.size+1+1,2,none⟩=some (.int .i64 c.be):=by rw [show w.heap.size+1+1=w.heap.size+2 from rfl,cell_of_row _ _ _ _ _ _ HC5.out];rfl
      have c53:wr.cell? ⟨w.heap.size+1+1,3,none⟩=some (.slice p3 n3 c3):=by rw [show w.heap.size+1+1=w.heap.size+2 from rfl,cell_of_row _ _ _ _ _ _ HC5.out];rfl
      have c54:wr.cell? ⟨w.heap.size+1+1,4,none⟩=some (.slice (some ⟨g,0,none⟩) N N):=by rw [show w.heap.size+1+1=w.heap.size+2 from rfl,cell_of_row _ _ _ _ _ _ HC5.out];rfl
      have HONE:=hid (show (#[.int .i64 c.sk,.int .i64 c.ra,.int .i64 c.be,.slice p3 n3 c3,.slice (some ⟨g,0,none⟩) N N]:Array Value).all (·.oneCell')=true from all_oneCell_toArray (by intro v hv;simp only [List.mem_cons,List.not_mem_nil,or_false] at hv;rcases hv with rfl | rfl | rfl | rfl | rfl <;> rfl))
      have HSZ2:=hid (show (#[.int .i64 c.sk,.int .i64 c.ra,.int .i64 c.be,.slice p3 n3 c3,.slice (some ⟨g,0,none⟩) N N]:Array Value).size=deskZ.size from rfl)
      go_wp2_with ((with_reducible apply wpL_storeRow (hg:=HRES.out) (hi:=info120 _ _ _ _ _) (hsz:=HSZ2.out) (h1:=HONE.out));rfl;rfl;intro w9 h9 hg9;have H9:=hid h9;have HG9:=hid hg9;clear h9 hg9)
      refine bodyPost_ret (results_cell_row rfl _ _ (w.heap.size+1) 129 _ (0,0) _ rfl H9.out Tryz.underlying129 rfl (info120 _ _ _ _ _)) rfl ?_
      have hk9:∀ {x:Value} {X:List Int},OwnI wr (w.heap.size+3) x X→OwnI w9 w.heap.size x X:=fun {x X} h=>by
        have h1:OwnI w9 (w.heap.size+3) x X:=World.ownsRow.kept h HG9.out (by
          by_cases hv:x.ownBlock=none
          · exact .inl hv
          · right
            intro e
            have:=(World.ownsRow.lt h _ e).1
            omega)
        exact OwnI.later h1 (Below.refl _ _) (by omega)
      refine ⟨_,_,rfl,hk9 HPO.out,?_,(HW9.out.bel.trans (HB.out.mono (by omega))).grown HG9.out (by omega) (fun q hq=>by cases hq;omega)⟩
      have hNl:(c.done++f).length=N:=by rw [List.length_append,HNM.out,HN.out,HM.out]
      have ho9:w9.ownsRow w.heap.size 22 1 (.slice (some ⟨g,0,none⟩) N N) N vs:=by
        have h1:=World.ownsRow.kept HO.out HG9.out (by right;simp [Value.ownBlock];omega)
        exact ⟨h1.1,by
          rcases h1.2 with h2 | ⟨g',cap',cur,h2,h3,h4⟩
          · exact .inl h2
          · exact .inr ⟨g',cap',cur,h2,by omega,h4⟩⟩
      refine ⟨vs,by rw [hNl];exact ho9,fun i hi => ?_⟩
      obtain ⟨u,h1,h2⟩:=HDN.out i (by have:=HKN.out;omega)
      refine ⟨u,h1,?_⟩
      have h3:=hk9 h2
      rw [List.getD_eq_getElem?_getD,List.getElem?_eq_getElem hi] at h3
      exact h3
end KL
end Go.Proofs
end
section
namespace Go.Proofs
open Go.RowKit Go.Lib Go.Sort
namespace KL

def withC(c:Cup)(f:List (List Int)):Cup:={ c with done:=c.done++f }

theorem valid_with{c:Cup}{f:List (List Int)}(hV:Valid c)(h0:((c.done.length+f.length:Nat):Int)≤c.ra)(h1:∀ r∈f,(r.length:Int)=c.sk)(h2:∀ r∈f,∀ x∈r,0≤x∧x≤60)(h3:f.any clashR=false):Valid (withC c f):=by
  refine ⟨hV.sk1,hV.sk2,hV.ra1,hV.ra2,hV.be1,hV.be2,hV.pt1,hV.pt2,?_,?_,hV.pts,?_,hV.falls,?_⟩
  · show ((c.done++f).length:Int)≤c.ra
    rw [List.length_append];exact h0
  · intro r hr
    rcases List.mem_append.1 hr with h | h
    · exact hV.len r h
    · exact h1 r h
  · intro r hr
    rcases List.mem_append.1 hr with h | h
    · exact hV.rows r h
    · exact h2 r h
  · show (c.done++f).any clashR=false
    rw [List.any_append,hV.clash,h3];rfl

theorem places_won:∀ n,n<13→∀ s,s<n→(wonRace n s).filter (fun x => !nz x)=[1]:=by decide

theorem wonRace_mem{n s:Nat}{x:Int}(h:x∈wonRace n s):0≤x∧x≤60:=by
  unfold wonRace at h
  rcases List.mem_or_eq_of_mem_set h with h | h
  · rw [List.mem_replicate] at h;omega
  · omega

theorem wonRace_clash{n s:Nat}(hn:n≤12)(hs:s<n):clashR (wonRace n s)=false:=by
  unfold clashR placesOf
  rw [places_won n (by omega) s hs,List.mergeSort_singleton]
  decide

theorem valid_won{c:Cup}(hV:Valid c){s:Nat}(hs:(s:Int)<c.sk):Valid (withC c (wonM c s)):=by
  have h1:=hV.sk1
  have h2:=hV.sk2
  have h3:=hV.dn
  refine valid_with hV ?_ (fun r hr => ?_) (fun r hr x hx => ?_) ?_
  · unfold wonM;rw [List.length_replicate];omega
  · unfold wonM at hr;rw [List.mem_replicate] at hr;rw [hr.2,wonRace_length];omega
  · unfold wonM at hr;rw [List.mem_replicate] at hr;rw [hr.2] at hx;exact wonRace_mem hx
  · rw [List.any_eq_false]
    intro r hr
    unfold wonM at hr;rw [List.mem_replicate] at hr;rw [hr.2,wonRace_clash (by omega) (by omega)];decide
end KL
end Go.Proofs
end
section
namespace Go.Proofs
open Go.RowKit Go.Lib Go.Sort
namespace KL

def canM(c:Cup)(s:Nat):Bool:=rankM (withC c (wonM c s)) s == 1

theorem OwnR.real{w:World}{base:Nat}{v:Value}{L:List (List Int)}(h:OwnR w base v L):Real v:=by
  obtain ⟨us,ho,_⟩:=h
  intro n cap e
  rcases ho.2 with ⟨h1,_⟩ | ⟨g,c',cur,h1,_⟩
  · rw [h1] at e;cases e;rfl
  · rw [h1] at e;cases e

set_option maxHeartbeats 2000000 in
set_option maxRecDepth 1000000 in
theorem can_any(c:Cup)(hV:Valid c)(vp vd:Value)(s:Nat)(hs:(s:Int)<c.sk)(w:World)(hp:Ints w vp c.pts)(hd:Rows w vd c.done) :
    Calls Tryz.prog 140 #[deskV c vp vd,.int .i64 s] w (Ret (.bool (canM c s)) w):=by
  have HP:=hid (fun W (hW:Below w.heap.size w W)=>ints_below hp hW)
  have HD:=hid (fun W (hW:Below w.heap.size w W)=>rows_below hd hW)
  have HB0:=hid ((Below.refl w.heap.size w).alloc (Nat.le_refl _) (deskBox c vp vd))
  have HC0:=hid (heap_alloc_new w (deskBox c vp vd))
  have HRK:=hid (fun v W (h:CupAt W v (withC c (wonM c s)))=>rank_any (withC c (wonM c s)) (valid_won hV hs) v s W h hs)
  have HCM:=hid (show canM c s=(rankM (withC c (wonM c s)) s == 1) from rfl)
  obtain ⟨pd,cd,rfl,hd2,hd3,_⟩:=hd.open
  obtain ⟨pp,cp,rfl,hp2,hp3,_⟩:=hp.open
  unfold maxLen at hd3 hp3
  have HWL:=hid (show (wonM c s).length≤20∧c.done.length≤20∧c.pts.length≤60∧∀ r∈c.done++wonM c s,r.length≤1000 from by
    have h1:=hV.dn
    have h2:=hV.ra2
    refine ⟨by unfold wonM;rw [List.length_replicate];omega,by omega,hV.pt2,fun r hr => ?_⟩
    have:=(valid_won hV hs).len r hr
    have h3:=hV.sk2
    have h4:(withC c (wonM c s)).sk=c.sk:=rfl
    omega)
  obtain ⟨rk,hrk⟩:∃ rk,rk=rankM (withC c (wonM c s)) s:=⟨_,rfl⟩
  rw [← hrk] at HRK HCM
  rw [HCM.out]
  clear hp hd hrk HCM
  obtain ⟨k0,k1,k2,k3,k4⟩:=desk_cells HC0.out
  have l0:=later_cellB (B:=w.heap.size+1) k0 (by omega)
  have l1:=later_cellB (B:=w.heap.size+1) k1 (by omega)
  have l2:=later_cellB (B:=w.heap.size+1) k2 (by omega)
  have l3:=later_cellB (B:=w.heap.size+1) k3 (by omega)
  have l4:=later_cellB (B:=w.heap.size+1) k4 (by omega)
  clear k0 k1 k2 k3 k4
  go_enter Tryz.func140,Tryz.ntmps140
  go_wp2
  refine wp_region_S (w.heap.size+1) [0,1,2,5] [3,4,6,7,8] (by kernel_rfl) (by kernel_rfl) (by intro d v c a1 w1 h;cases d <;> exact h) (fun w0 hb0 he0 => ?_)
  simp only [List.filterMap_cons,List.filterMap_nil,List.getElem?_cons_zero,List.getElem?_cons_succ]
  change wpQuiet _ _ _ (fun a'=>wpSeq _ _ _ _ (_::_::_::_::_::[]) a' w0) (_::_::_::_::[]) _
  repeat (go_big_quiet_step ((go_at_call 150;fail)))
  refine wpQuiet_nil ?_
  have hA:Below w.heap.size w w0:=HB0.out.trans (hb0.mono (by simp))
  have HA:=hid hA
  have HB1:=hid (show Below (w.heap.size+1) (w.alloc (deskBox c (.slice pp c.pts.length cp) (.slice pd c.done.length cd))) w0 from hb0.mono (by simp))
  have HWON:=hid (won_any c hV _ _ s hs w0 (HP.out w0 hA) (HD.out w0 hA))
  have hsz0:=hb0.size
  simp only [World.size_alloc] at hsz0
  clear hA hb0 he0 l0 l1 l2 l3 l4
  change wpList _ _ (Exit.then _ _) (_::[]) _ w0
  go_wp2_with (go_at_call 136;refine HWON.out.mono ?_;clear HWON;rintro e w1 ⟨p1,n1,c1,rfl,hn1,ho1,hb1⟩;have HN1:=hid hn1;have HO1:=hid ho1;have HW1:=hid hb1;clear hn1 ho1 hb1)
  have hB1:=HB1.out.trans (HW1.out.mono hsz0)
  have hA1:Below w.heap.size w w1:=HA.out.trans (HW1.out.mono HA.out.size)
  have HA1:=hid hA1
  have HWITH:=hid (with_any c _ _ _ (wonM c s) w1 (HP.out w1 hA1) (HD.out w1 hA1) HO1.out.rows HO1.out.real (by have:=HWL.out.2.2.1;omega) (by have:=HWL.out.1;have:=HWL.out.2.1;omega) HWL.out.2.2.2)
  refine ⟨⟨⟨w1,hB1⟩,rfl⟩,?_⟩
  have HB2:=hid hB1
  have hsz1:w.heap.size+1≤w1.heap.size:=Nat.le_trans hsz0 HW1.out.size
  clear hB1 hA1
  change wpList _ _ (Exit.then _ _) (_::[]) _ w1
  go_wp2_with (go_at_call 118;refine HWITH.out.mono ?_;clear HWITH;rintro e w2 ⟨xp,xd,rfl,ho2,ho3,hb2⟩;have HO2:=hid ho2;have HO3:=hid ho3;have HW2:=hid hb2;clear ho2 ho3 hb2)
  have hB2:=HB2.out.trans (HW2.out.mono hsz1)
  have hA2:Below w.heap.size w w2:=HA1.out.trans (HW2.out.mono HA1.out.size)
  have HA2:=hid hA2
  have HRANK:=hid (HRK.out _ w2 ⟨xp,xd,rfl,HO2.out.ints,HO3.out.rows⟩)
  refine ⟨⟨⟨w2,hB2⟩,rfl⟩,?_⟩
  have HB3:=hid hB2
  have hsz2:w.heap.size+1≤w2.heap.size:=Nat.le_trans hsz1 HW2.out.size
  clear hB2 hA2
  change wpList _ _ (Exit.then _ _) (_::[]) _ w2
  go_wp2_with (go_at_call 107;refine HRANK.out.mono ?_;clear HRANK;rintro e w3 ⟨rfl,hb3⟩;have HW3:=hid hb3;clear hb3)
  have hB3:=HB3.out.trans (HW3.out.mono hsz2)
  have HA3:=hid (HA2.out.trans (HW3.out.mono HA2.out.size))
  have HB4:=hid hB3
  refine ⟨⟨⟨w3,hB3⟩,rfl⟩,?_⟩
  clear hB3
  change wpList _ _ (Exit.then _ _) (_::[]) _ w3
  go_wp2
  refine ⟨⟨⟨w3,HB4.out⟩,rfl⟩,?_⟩
  change wpList _ _ (Exit.then _ _) (_::[]) _ w3
  go_wp2
  refine ⟨⟨⟨w3,HB4.out⟩,rfl⟩,?_⟩
  change (Exit.then _ _) Exit.normal _ _
  go_wp2
  go_ret
  exact ⟨rfl,HA3.out⟩
end KL
end Go.Proofs
end
section
namespace Go.Proofs
open Go.RowKit Go.Lib Go.Sort
namespace KL

def passes(c:Cup)(skier s:Nat):Bool:=decide (s≠skier) && decide (1<rankM (withC c (wonM c s)) skier)
def againstAt(c:Cup)(skier:Nat):Nat→Nat→Option Nat
  | 0,_=>none
  | f+1,k=>if passes c skier k then some k else againstAt c skier f (k+1)
def againstM(c:Cup)(skier:Nat):Option Nat:=againstAt c skier c.sk.toNat 0

def againstL(c:Cup)(o:Option Nat):List (List Int):=o.elim [] (wonM c)

def RetRB(L:List (List Int))(b:Bool)(w:World)(e:Ending)(w':World):Prop:=∃ p n cap,e = .returned (.tuple #[.slice p n cap,.bool b])∧n=L.length∧OwnR w' w.heap.size (.slice p n cap) L∧Below w.heap.size w w'

theorem againstAt_step(c:Cup)(skier f k:Nat):againstAt c skier (f+1) k=if passes c skier k then some k else againstAt c skier f (k+1):=rfl

set_option maxHeartbeats 2000000 in
set_option maxRecDepth 1000000 in
theorem against_any(c:Cup)(hV:Valid c)(vp vd:Value)(skier:Nat)(hs:(skier:Int)<c.sk)(w:World)(hp:Ints w vp c.pts)(hd:Rows w vd c.done) :
    Calls Tryz.prog 141 #[deskV c vp vd,.int .i64 skier] w (RetRB (againstL c (againstM c skier)) (againstM c skier).isSome w):=by
  have HP:=hid (fun W (hW:Below w.heap.size w W)=>ints_below hp hW)
  have HD:=hid (fun W (hW:Below w.heap.size w W)=>rows_below hd hW)
  have HB0:=hid ((Below.refl w.heap.size w).alloc (Nat.le_refl _) (deskBox c vp vd))
  have HC0:=hid (heap_alloc_new w (deskBox c vp vd))
  have hsk1:=hV.sk1
  have hsk2:=hV.sk2
  obtain ⟨pd,cd,rfl,hd2,hd3,_⟩:=hd.open
  obtain ⟨pp,cp,rfl,hp2,hp3,_⟩:=hp.open
  unfold maxLen at hd3 hp3
  clear hp hd
  have hBB:=Below.refl (w.heap.size+1) (w.alloc (deskBox c (.slice pp c.pts.length cp) (.slice pd c.done.length cd)))
  obtain ⟨k0,k1,k2,k3,k4⟩:=desk_cells HC0.out
  go_enter Tryz.func141,Tryz.ntmps141
  go_wp2
  clear k0 k1 k2 k3 k4
  go_loopw [11] (fun i wr=>∃ k:Nat,(k:Int)≤c.sk∧i = .int .i64 k∧againstM c skier=againstAt c skier (c.sk.toNat-k) k ∧
      Below (w.heap.size+1) (w.alloc (deskBox c (.slice pp c.pts.length cp) (.slice pd c.done.length cd))) wr) (fun i _=>c.sk.toNat-(intOf i).toNat)
  case atStart=>exact ⟨0,by omega,rfl,rfl,hBB⟩
  case round =>
    obtain ⟨k,hk,rfl,hag,hB⟩:=hrel
    have HAG:=hid hag
    have HB:=hid hB
    have hsz:w.heap.size+1≤wr.heap.size:=by have:=hB.size;simpa using this
    have H2:=hid ((hB.block w.heap.size (by omega)).trans HC0.out)
    have hbw:Below w.heap.size w wr:=HB0.out.trans (hB.mono (by omega))
    have HBW:=hid hbw
    obtain ⟨k0,k1,k2,k3,k4⟩:=desk_cells H2.out
    clear hag hB hBB hbw
    by_cases hlt:(k:Int)<c.sk
    · have HWON:=hid (won_any c hV _ _ k hlt wr (HP.out wr HBW.out) (HD.out wr HBW.out))
      have HST:=hid (show againstM c skier=if passes c skier k then some k else againstAt c skier (c.sk.toNat-(k+1)) (k+1) from by
        rw [HAG.out,show c.sk.toNat-k=(c.sk.toNat-(k+1))+1 by omega,againstAt_step])
      by_cases hks:k=skier
      · subst hks
        go_wp2_with (go_at_call 136;refine HWON.out.mono ?_;clear HWON;rintro e w1 ⟨p1,n1,c1,rfl,hn1,ho1,hb1⟩;have HN1:=hid hn1;have HW1:=hid hb1;clear hn1 ho1 hb1)
        go_roundw
        case rel =>
          refine ⟨k+1,by omega,by go_num,?_,HB.out.trans (HW1.out.mono hsz)⟩
          rw [HST.out,if_neg (by simp [passes])]
        case measure=>simp [intOf];omega
      · have hne:((k:Int) != skier)=true:=by simp;omega
        have HRK:=hid (fun v W (h:CupAt W v (withC c (wonM c k)))=>rank_any (withC c (wonM c k)) (valid_won hV hlt) v skier W h hs)
        have HPS:=hid (show passes c skier k=decide (1<rankM (withC c (wonM c k)) skier) from by simp [passes,hks])
        obtain ⟨rk,hrk⟩:∃ rk,rk=rankM (withC c (wonM c k)) skier:=⟨_,rfl⟩
        rw [← hrk] at HRK HPS
        have HWL:=hid (show (wonM c k).length≤20∧c.done.length≤20∧c.pts.length≤60∧∀ r∈c.done++wonM c k,r.length≤1000 from by
          have h1:=hV.dn
          have h2:=hV.ra2
          refine ⟨by unfold wonM;rw [List.length_replicate];omega,by omega,hV.pt2,fun r hr => ?_⟩
          have:=(valid_won hV hlt).len r hr
          have h4:(withC c (wonM c k)).sk=c.sk:=rfl
          omega)
        clear hrk
        go_wp2_with (first
          | (go_at_call 136;refine HWON.out.mono ?_;clear HWON;rintro e w1 ⟨p1,n1,c1,rfl,hn1,ho1,hb1⟩;have HN1:=hid hn1;have HW1:=hid hb1;have HO1:=hid ho1
             have H21:=hid ((hb1.block w.heap.size (by omega)).trans H2.out)
             obtain ⟨k0,k1,k2,k3,k4⟩:=desk_cells H21.out
             have HA1:=hid (HBW.out.trans (hb1.mono HBW.out.size))
             have HWITH:=hid (with_any c _ _ _ (wonM c k) w1 (HP.out w1 HA1.out) (HD.out w1 HA1.out) ho1.rows ho1.real (by have:=HWL.out.2.2.1;omega) (by have:=HWL.out.1;have:=HWL.out.2.1;omega) HWL.out.2.2.2);clear hn1 ho1 hb1)
          | (go_at_call 118;refine HWITH.out.mono ?_;clear HWITH;rintro e w2 ⟨xp,xd,rfl,ho2,ho3,hb2⟩;have HW2:=hid hb2;have HRANK:=hid (HRK.out _ w2 ⟨xp,xd,rfl,ho2.ints,ho3.rows⟩);clear ho2 ho3 hb2)
          | (go_at_call 107;refine HRANK.out.mono ?_;clear HRANK;rintro e w3 ⟨rfl,hb3⟩;have HW3:=hid hb3;clear hb3))
        · have hsz1:=HW1.out.size
          have hsz2:=HW2.out.size
          have hb13:Below w1.heap.size w1 _:=HW2.out.trans (HW3.out.mono hsz2)
          refine bodyPost_ret (results_tmp2 rfl _ _) rfl ?_
          rw [HST.out,HPS.out,if_pos (by simpa using (by assumption))]
          exact (show RetRB (wonM c k) true w _ _ from ⟨p1,n1,c1,rfl,HN1.out,((HO1.out.later hb13).base (by omega)),HA1.out.trans (hb13.mono HA1.out.size)⟩)
        · have hsz1:=HW1.out.size
          have hsz2:=HW2.out.size
          have hb13:Below w1.heap.size w1 _:=HW2.out.trans (HW3.out.mono hsz2)
          go_roundw
          case rel =>
            refine ⟨k+1,by omega,by go_num,?_,HB.out.trans ((HW1.out.trans (hb13.mono hsz1)).mono hsz)⟩
            rw [HST.out,HPS.out,if_neg (by simp;omega)]
          case measure=>simp [intOf];omega
    · have HK:=hid (show k=c.sk.toNat by omega)
      have HE:=hid (show againstM c skier=none by rw [HAG.out,HK.out,Nat.sub_self];rfl)
      go_wp2
      refine bodyPost_ret (results_tmp2 rfl _ _) rfl ?_
      rw [HE.out]
      exact (show RetRB [] false w _ _ from ⟨none,0,0,rfl,rfl,OwnR.nil _ _,HBW.out⟩)
end KL
end Go.Proofs
end
section
namespace Go.Proofs
open Go.RowKit Go.Lib Go.Sort
namespace KL

def sureM(c:Cup)(s:Nat):Bool := !(againstM c s).isSome

set_option maxHeartbeats 1000000 in
theorem sure_any(c:Cup)(hV:Valid c)(vp vd:Value)(s:Nat)(hs:(s:Int)<c.sk)(w:World)(hp:Ints w vp c.pts)(hd:Rows w vd c.done) :
    Calls Tryz.prog 159 #[deskV c vp vd,.int .i64 s] w (Ret (.bool (sureM c s)) w):=by
  have hB0:=(Below.refl w.heap.size w).alloc (Nat.le_refl _) (deskBox c vp vd)
  have HA:=hid (against_any c hV vp vd s hs (w.alloc (deskBox c vp vd)) (ints_below hp hB0) (rows_below hd hB0))
  have HB0:=hid hB0
  have HSM:=hid (show sureM c s = !(againstM c s).isSome from rfl)
  obtain ⟨pd,cd,rfl,hd2,hd3,_⟩:=hd.open
  obtain ⟨pp,cp,rfl,hp2,hp3,_⟩:=hp.open
  unfold maxLen at hd3 hp3
  obtain ⟨b,hb⟩:∃ b,b=(againstM c s).isSome:=⟨_,rfl⟩
  rw [← hb] at HA HSM
  rw [HSM.out]
  clear hp hd hB0 hb
  go_enter Tryz.func159,Tryz.ntmps159
  go_wp2_with (go_at_call 141;refine HA.out.mono ?_;clear HA;rintro e w1 ⟨p1,n1,c1,rfl,hn1,ho1,hb1⟩;have HN1:=hid hn1;have HW1:=hid hb1;clear hn1 ho1 hb1)
  go_ret
  exact ⟨rfl,HB0.out.trans (HW1.out.mono (by simp))⟩
end KL
end Go.Proofs
end
section
namespace Go.Proofs
open KL Go.RowKit
namespace KV
variable {P:Program} {C:Cx} {M:Mem} {w w':World}

theorem FV.of_calls{f base:Nat}{args:List AV}{y:AV}(ho:outP [] base y=some (y,[]))
    (h:∀ (C:Cx) (w:World) (us:List Value),RepL C [] w args us→Calls P f us.toArray w fun e w'=>∃ u,e = .returned u∧Below w.heap.size w w'∧∀ (C2:Cx),(∀ b,C.F b→C2.F b)→(∀ b,w.heap.size≤b→b<w'.heap.size→C2.F b)→(∀ b,C.F b→w'.heap[b]? = w.heap[b]?)→Rep C2 [] w' y u):FV P f args base y []:=by
  refine ⟨y,[],fun C w us hus hM n=>(callsIn_wide.2 (h C w us hus)).mono ?_,ho⟩
  rintro e w' ⟨u,rfl,hb,hr⟩
  obtain ⟨f1,m1⟩:=fr_after (C:=C) (M:=([]:Mem)) (w:=w) (w':=w') (kb:=none) hM hb.os hb.tape hb.output hb.size (fun b hb'=>hb.block b hb')
  exact ⟨u,rfl,_,f1,m1,hr _ f1.F1 (fun b h1 h2 => .inr ⟨h1,h2,by simp⟩) (fun b hf=>hb.block b (hM.Fs b hf))⟩

theorem rows_of{F:Nat→Prop}{l:List (List Int)}{u:Value}(h:RepP F w (rowsP l) u):KL.Rows w u l:=by
  change RepP F w (.sl l.length (l.map intsP)) u at h
  generalize hn:l.length=n at h
  generalize hc:l.map intsP=cs at h
  cases h with
  | sl n cs p cap us h1 h2 h3 h4 h5 =>
    subst hn
    refine ⟨p,cap,rfl,h1,h2,fun i hi => ?_⟩
    have hl:i<cs.length:=by rw [← hc];simpa using hi
    obtain ⟨b,o,hp,_,hw⟩:=h3 i hl
    refine ⟨b,o,us i,hp,hw,?_⟩
    have:=h4 i hl
    subst hc
    rw [List.getElem_map] at this
    exact ints_of this

abbrev cupC(c:KL.Cup):List PV:=[intP c.sk,intP c.ra,intP c.be,intsP c.pts,rowsP c.done]
abbrev cupP(c:KL.Cup):PV := .agg (cupC c)
theorem repV_int{F:Nat→Prop}{k:IntKind}{n:Int}{u:Value}(h:RepP F w (.v (.int k n)) u):u = .int k n:=repV h
theorem agg5{vs:Array Value}{a b c d e:Value}(hs:vs.size=5)(h0:vs.getD 0 undef=a)(h1:vs.getD 1 undef=b)(h2:vs.getD 2 undef=c)(h3:vs.getD 3 undef=d)(h4:vs.getD 4 undef=e):vs = #[a,b,c,d,e]:=by
  apply Array.ext
  · simpa using hs
  · intro i h5 h6
    have:i=0∨i=1∨i=2∨i=3∨i=4:=by omega
    rcases this with rfl | rfl | rfl | rfl | rfl <;> simp_all [Array.getD_eq_getD_getElem?]
theorem cup_of{F:Nat→Prop}{c:KL.Cup}{u:Value}(h:RepP F w (cupP c) u):∃ vp vd,u=deskV c vp vd∧Ints w vp c.pts∧KL.Rows w vd c.done∧RepP F w (intsP c.pts) vp∧RepP F w (rowsP c.done) vd:=by
  cases h with
  | agg cs vs h0 h1 h2 =>
    have e0:=repV_int (h2 0 (by simp))
    have e1:=repV_int (h2 1 (by simp))
    have e2:=repV_int (h2 2 (by simp))
    have e3:=h2 3 (by simp)
    have e4:=h2 4 (by simp)
    refine ⟨_,_,?_,ints_of e3,rows_of e4,e3,e4⟩
    exact congrArg Value.agg (agg5 h1 e0 e1 e2 rfl rfl)
theorem repP_own{F:Nat→Prop}{base:Nat}{u:Value}{l:List Int}(h:OwnI w base u l)(hF:∀ b,base≤b→b<w.heap.size→F b):RepP F w (intsP l) u:=by
  rcases h.2 with ⟨rfl,h0⟩ | ⟨g,cap,cur,rfl,hb,hh,r1,r2,r3,r4⟩
  · have:l=[]:=List.eq_nil_of_length_eq_zero h0
    subst this
    exact .sl 0 [] none 0 (fun _=>undef) (Nat.le_refl _) (by unfold maxLen;omega) (fun i h=>by simp at h) (fun i h=>by simp at h) (fun i h=>by simp at h)
  · obtain ⟨q1,q2⟩:=vals_arr (w:=w) F (by simpa using r4)
    refine .sl _ _ _ _ (fun j=>cur.getD j undef) r1 r2 (fun i hi=>⟨g,0,rfl,hF g hb (lt_of_block hh),?_⟩) q1 q2
    rw [Nat.zero_add]
    exact cell_of_heap hh (by have:i<l.length:=by simpa using hi
                              omega)
section
variable {f base:Nat} {args:List AV}
theorem FV.of_ret{y:PV}{v:Value}(hy:∀ (F:Nat→Prop) (w:World),RepP F w y v)(ho:outP [] base (.p y)=some (.p y,[]))
    (h:∀ (C:Cx) (w:World) (us:List Value),RepL C [] w args us→Calls P f us.toArray w (Ret v w)):FV P f args base (.p y) [] :=
  FV.of_calls ho fun C w us hus=>(h C w us hus).mono fun e w' ⟨he,hb⟩=>⟨v,he,hb,fun C2 _ _ _ => .p _ _ (hy _ _)⟩
theorem FV.of_own{l:List Int}(h:∀ (C:Cx) (w:World) (us:List Value),RepL C [] w args us→Calls P f us.toArray w (RetOwn l w)):FV P f args base (.p (intsP l)) [] :=
  FV.of_calls rfl fun C w us hus=>(h C w us hus).mono fun e w' ⟨p,n,cap,he,hn,ho,hb⟩=>⟨_,he,hb,fun C2 _ h2 _ => .p _ _ (repP_own ho h2)⟩
end

theorem repL_cup{C:Cx}{c:KL.Cup}{us:List Value}(h:RepL C M w [.p (cupP c)] us):∃ vp vd,us=[deskV c vp vd]∧Ints w vp c.pts∧KL.Rows w vd c.done:=by
  obtain ⟨u,rfl,hu⟩:=repL_one h
  cases hu with
  | p _ _ hu =>
    obtain ⟨vp,vd,rfl,h1,h2,_⟩:=cup_of hu
    exact ⟨vp,vd,rfl,h1,h2⟩
theorem repL_cupI{C:Cx}{c:KL.Cup}{n:Int}{us:List Value}(h:RepL C M w [.p (cupP c),.p (intP n)] us):∃ vp vd,us=[deskV c vp vd,.int .i64 n]∧Ints w vp c.pts∧KL.Rows w vd c.done:=by
  obtain ⟨u,v,rfl,hu,hv⟩:=repL_two h
  cases hu with
  | p _ _ hu =>
    cases hv with
    | p _ _ hv =>
      obtain ⟨vp,vd,rfl,h1,h2,_⟩:=cup_of hu
      rw [repV_int hv]
      exact ⟨vp,vd,rfl,h1,h2⟩

theorem check_ok(c:KL.Cup)(hS:Small c){base:Nat}:FV Tryz.prog 50 [.p (cupP c)] base (.p (intP (checkP c))) [] :=
  FV.of_ret (fun _ _ => .v _) rfl fun C w us hus=>by
    obtain ⟨vp,vd,rfl,h1,h2⟩:=repL_cup hus
    exact check_any c _ w ⟨vp,vd,rfl,h1,h2⟩ hS
theorem rank_ok(c:KL.Cup)(hV:Valid c)(s:Nat)(hs:(s:Int)<c.sk){base:Nat}:FV Tryz.prog 107 [.p (cupP c),.p (intP (s:Int))] base (.p (intP (rankM c s))) [] :=
  FV.of_ret (fun _ _ => .v _) rfl fun C w us hus=>by
    obtain ⟨vp,vd,rfl,h1,h2⟩:=repL_cupI hus
    exact rank_any c hV _ s w ⟨vp,vd,rfl,h1,h2⟩ hs
theorem can_ok(c:KL.Cup)(hV:Valid c)(s:Nat)(hs:(s:Int)<c.sk){base:Nat}:FV Tryz.prog 140 [.p (cupP c),.p (intP (s:Int))] base (.p (blP (canM c s))) [] :=
  FV.of_ret (fun _ _ => .v _) rfl fun C w us hus=>by
    obtain ⟨vp,vd,rfl,h1,h2⟩:=repL_cupI hus
    exact can_any c hV vp vd s hs w h1 h2
theorem sure_ok(c:KL.Cup)(hV:Valid c)(s:Nat)(hs:(s:Int)<c.sk){base:Nat}:FV Tryz.prog 159 [.p (cupP c),.p (intP (s:Int))] base (.p (blP (sureM c s))) [] :=
  FV.of_ret (fun _ _ => .v _) rfl fun C w us hus=>by
    obtain ⟨vp,vd,rfl,h1,h2⟩:=repL_cupI hus
    exact sure_any c hV vp vd s hs w h1 h2
theorem totals_ok(c:KL.Cup)(hV:Valid c){base:Nat}:FV Tryz.prog 97 [.p (cupP c)] base (.p (intsP (totalsM c))) [] :=
  FV.of_own fun C w us hus=>by
    obtain ⟨vp,vd,rfl,h1,h2⟩:=repL_cup hus
    exact totals_any c hV vp vd w h1 h2
abbrev formP(c:KL.Cup)(s:Nat):PV := .agg (intP (totalM c s)::(placesM c s).map intP)
theorem rep_ints(F:Nat→Prop)(w:World)(l:List Int):RepP F w (.agg (l.map intP)) (.agg (l.map (Value.int .i64)).toArray):=by
  have hg:∀ i (h:i<l.length),(l.map (Value.int .i64)).toArray.getD i undef = .int .i64 l[i]:=fun i h=>by
    rw [Array.getD_eq_getD_getElem?,Array.getElem?_eq_getElem (by simpa using h)];simp
  refine .agg _ _ (fun i hi => ?_) (by simp) (fun i hi => ?_)
  · rw [hg i (by simpa using hi)];rfl
  · rw [hg i (by simpa using hi),List.getElem_map];exact .v _
theorem form_ok(c:KL.Cup)(hV:Valid c)(s:Nat)(hs:(s:Int)<c.sk){base:Nat}:FV Tryz.prog 106 [.p (cupP c),.p (intP (s:Int))] base (.p (formP c s)) [] :=
  FV.of_ret (v := .agg (formM c s)) (fun F w=>by
    have:=rep_ints F w (totalM c s::placesM c s)
    simpa [formM,formC] using this) rfl fun C w us hus=>by
    obtain ⟨vp,vd,rfl,h1,h2⟩:=repL_cupI hus
    exact form_any c hV _ s w ⟨vp,vd,rfl,h1,h2⟩ hs
theorem form_of{F:Nat→Prop}{c:KL.Cup}{s:Nat}{u:Value}(h:RepP F w (formP c s) u):u = .agg (formM c s):=by
  have:∀ (l:List Int) (u:Value),RepP F w (.agg (l.map intP)) u→u = .agg (l.map (Value.int .i64)).toArray:=fun l u h=>by
    generalize hc:l.map intP=cs at h
    cases h with
    | agg cs vs h0 h1 h2 =>
      subst hc
      congr 1
      apply Array.ext
      · simpa using h1
      · intro i h3 h4
        have hi:i<l.length:=by simpa using h4
        have:=h2 i (by simpa using hi)
        rw [List.getElem_map] at this
        have:=repV_int this
        rw [Array.getD_eq_getD_getElem?,Array.getElem?_eq_getElem h3] at this
        simpa using this
  have h2:=this (totalM c s::placesM c s) u (by simpa using h)
  rw [h2]
  simp [formM,formC]
theorem better_ok(c c':KL.Cup)(a b:Nat){base:Nat}:FV Tryz.prog 111 [.p (formP c a),.p (formP c' b)] base (.p (blP (betterF (totalM c a) (totalM c' b) (placesM c a) (placesM c' b)))) [] :=
  FV.of_ret (fun _ _ => .v _) rfl fun C w us hus=>by
    obtain ⟨u,v,rfl,hu,hv⟩:=repL_two hus
    cases hu with
    | p _ _ hu =>
      cases hv with
      | p _ _ hv =>
        rw [form_of hu,form_of hv]
        have h:∀ (c:KL.Cup) s,(placesM c s).length=61:=fun c s=>by unfold placesM;rw [placesUpTo_length]
        exact better_any _ _ _ _ (h c a) (h c' b) w
end KV
end Go.Proofs
end
namespace Go.Proofs
namespace KV
section
theorem within_p0{n lo hi:Int}{r0:Bool}(h0:lo≤n)(er0:r0=(decide (n≤hi))){base:Nat}:FV Tryz.prog 92 [(.p (intP n)),(.p (intP lo)),(.p (intP hi))] base (.p (blP r0)) []:=by
  subst er0
  exact FV.fin Tryz.func92 rfl (o:=[.b true,.b true,.b true,.b true]) (l:=[(decide (n ≥ lo))=true,(decide (n ≥ lo))=true,(decide (n ≥ lo))=true,(decide (n ≥ lo))=true]) (by kernel_rfl) (gc (q_le h0) (gc (q_le h0) (gc (q_le h0) (gc (q_le h0) gn))))
theorem within_p1{n lo hi:Int}(h0:n<lo){base:Nat}:FV Tryz.prog 92 [(.p (intP n)),(.p (intP lo)),(.p (intP hi))] base (.p (blP false)) []:=by
  exact FV.fin Tryz.func92 rfl (o:=[.b false,.b false,.b false,.b false]) (l:=[(decide (n ≥ lo))=false,(decide (n ≥ lo))=false,(decide (n ≥ lo))=false,(decide (n ≥ lo))=false]) (by kernel_rfl) (gc (q_leF h0) (gc (q_leF h0) (gc (q_leF h0) (gc (q_leF h0) gn))))
def within(n lo hi:Int):Bool:=decide (lo≤n) && decide (n≤hi)
theorem within_ok(n lo hi:Int){base:Nat}:FV Tryz.prog 92 [.p (intP n),.p (intP lo),.p (intP hi)] base (.p (blP (within n lo hi))) []:=by
  by_cases h:lo≤n
  · exact within_p0 h (by simp [within,h])
  · have e:within n lo hi=false:=by simp [within,h]
    rw [e];exact within_p1 (show n<lo by omega)
def sum_S0(l:List Int)(i:Nat)(a:Int):St:=⟨fr 17 [(2,(.p (intP 0))),(3,(.p (intP a))),(6,(.p (intsP l))),(7,(.p (intP (l.length:Int)))),(8,(.p (intP (i:Int))))],[]⟩
theorem sum_p0{l:List Int}{i'0:Nat}{a'1:Int}(hl0:LoopOK Tryz.prog 0 (sub (cd Tryz.f101) [1,1,0,1,0,0]) (sum_S0 l 0 (0:Int)) (.exit 0) (sum_S0 l i'0 a'1)){base:Nat}:FV Tryz.prog 101 [(.p (intsP l))] base (.p (intP a'1)) []:=by
  exact FV.fin Tryz.func101 rfl (o:=[.k 8 ⟨[0,1,4,5,9,10,11,12,13,14,15],[],[],[]⟩ (.exit 0) (sum_S0 l i'0 a'1)]) (l:=[CodeOK Tryz.prog 0 (.loop (sub (cd Tryz.f101) [1,1,0,1,0,0])) (sum_S0 l 0 (0:Int)) (.exit 0) (sum_S0 l i'0 a'1)]) (by kernel_rfl) (gc hl0.code gn)
theorem sum_L0_p0{l:List Int}{i:Nat}{a x100:Int}{i':Nat}{a':Int}(h0:(i:Int)<(l.length:Int))(h1:l[i]? = some x100)(h2:inR (a+x100))(h3:inR (((i+1):Nat):Int))(ei':i'=(i+1))(ea':a'=(a+x100)):CodeOK Tryz.prog 0 (sub (cd Tryz.f101) [1,1,0,1,0,0]) (sum_S0 l i a) .normal (sum_S0 l i' a'):=by
  subst ei' ea'
  exact CodeOK.fin (g:=⟨[0,1,4,5,9,10,11,12,13,14,15],[],[],[]⟩) (o:=[.b true,.x (intP x100)]) (l:=[inR (((i+1):Nat):Int),inR (a+x100),(l.map intP)[(i*1)]? = some (intP x100),0≤(i:Int)∧(i:Int)<(l.length:Int)∧(i*1)<(l.map intP).length,(decide ((i:Int)<(l.length:Int)))=true]) (by kernel_rfl) (gc h3 (gc h2 (gc (at_map (i:=i) h1) (gc (ix_map (i:=(i:Int)) (Int.natCast_nonneg _) h1) (gc (q_lt h0) gn)))))
theorem sum_L0_p1{l:List Int}{i:Nat}{a:Int}(h0:(l.length:Int)≤(i:Int)):CodeOK Tryz.prog 0 (sub (cd Tryz.f101) [1,1,0,1,0,0]) (sum_S0 l i a) (.exit 0) (sum_S0 l i a):=by
  exact CodeOK.fin (g:=⟨[0,1,4,5,9,10,11,12,13,14,15],[],[],[]⟩) (o:=[.b false]) (l:=[(decide ((i:Int)<(l.length:Int)))=false]) (by kernel_rfl) (gc (q_ltF h0) gn)
theorem sum_ok(l:List Int)(hl:small l.length)(hr:∀ k,inR (l.take k).sum){base:Nat}:FV Tryz.prog 101 [.p (intsP l)] base (.p (intP l.sum)) []:=by
  have h:=LoopOK.range (P:=Tryz.prog) (k:=0) (b:=sub (cd Tryz.f101) [1,1,0,1,0,0]) (e := .exit 0) (fun i a=>sum_S0 l i a) (fun a=>sum_S0 l l.length a) (fun a x=>a+x) (fun i a=>a=(l.take i).sum) (by simp) l (a0:=0) (by simp)
    (fun i x acc hx hI=>by
      have hi:=lt_of_at hx
      have he:(l.take (i+1)).sum=acc+x:=by
        rw [List.take_add_one,hx,hI];simp
      exact ⟨he.symm,sum_L0_p0 (by omega) hx (he ▸ hr (i+1)) (inR_nat (by omega)) rfl rfl⟩)
    (fun acc _=>sum_L0_p1 (by omega))
  have e:l.foldl (fun a x=>a+x) 0=l.sum:=by rw [List.sum_eq_foldl]
  rw [e] at h
  exact sum_p0 h
theorem nan_p0{x:Int}{r0:Bool}(er0:r0=(x != x)){base:Nat}:FV Tryz.prog 155 [(.p (intP x))] base (.p (blP r0)) []:=by
  subst er0
  exact FV.fin Tryz.func155 rfl (o:=[]) (l:=[]) (by kernel_rfl) (gn)
theorem nan_ok(x:Int){base:Nat}:FV Tryz.prog 155 [.p (intP x)] base (.p (blP false)) []:=nan_p0 (by simp)
theorem cmp_p0{x y:Int}(h0:x<y){base:Nat}:FV Tryz.prog 100 [(.p (intP x)),(.p (intP y))] base (.p (intP (-1:Int))) []:=by
  exact FV.fin Tryz.func100 rfl (o:=[.c (.p (blP false)) [],.c (.p (blP false)) [],.b false,.b false,.b true]) (l:=[(decide (x<y))=true,false=false,false=false,FC Tryz.prog 155 [(.p (intP y))] [] 0 (.p (blP false)) [],FC Tryz.prog 155 [(.p (intP x))] [] 0 (.p (blP false)) []]) (by kernel_rfl) (gc (q_lt h0) (gc rfl (gc rfl (gc (FV.fc (nan_ok y) rfl) (gc (FV.fc (nan_ok x) rfl) gn)))))
theorem cmp_p1{x y:Int}(h0:y≤x)(h1:y<x){base:Nat}:FV Tryz.prog 100 [(.p (intP x)),(.p (intP y))] base (.p (intP 1)) []:=by
  exact FV.fin Tryz.func100 rfl (o:=[.c (.p (blP false)) [],.c (.p (blP false)) [],.b false,.b false,.b false,.b true]) (l:=[(decide (x > y))=true,(decide (x<y))=false,false=false,false=false,FC Tryz.prog 155 [(.p (intP y))] [] 0 (.p (blP false)) [],FC Tryz.prog 155 [(.p (intP x))] [] 0 (.p (blP false)) []]) (by kernel_rfl) (gc (q_lt h1) (gc (q_ltF h0) (gc rfl (gc rfl (gc (FV.fc (nan_ok y) rfl) (gc (FV.fc (nan_ok x) rfl) gn))))))
theorem cmp_p2{x y:Int}(h0:y≤x)(h1:x≤y){base:Nat}:FV Tryz.prog 100 [(.p (intP x)),(.p (intP y))] base (.p (intP 0)) []:=by
  exact FV.fin Tryz.func100 rfl (o:=[.c (.p (blP false)) [],.c (.p (blP false)) [],.b false,.b false,.b false,.b false]) (l:=[(decide (x > y))=false,(decide (x<y))=false,false=false,false=false,FC Tryz.prog 155 [(.p (intP y))] [] 0 (.p (blP false)) [],FC Tryz.prog 155 [(.p (intP x))] [] 0 (.p (blP false)) []]) (by kernel_rfl) (gc (q_ltF h1) (gc (q_ltF h0) (gc rfl (gc rfl (gc (FV.fc (nan_ok y) rfl) (gc (FV.fc (nan_ok x) rfl) gn))))))
def cmpI(x y:Int):Int:=if x<y then -1 else if y<x then 1 else 0
theorem cmp_ok(x y:Int){base:Nat}:FV Tryz.prog 100 [.p (intP x),.p (intP y)] base (.p (intP (cmpI x y))) []:=by
  unfold cmpI
  by_cases h1:x<y
  · rw [if_pos h1];exact cmp_p0 h1
  · rw [if_neg h1]
    by_cases h2:y<x
    · rw [if_pos h2];exact cmp_p1 (by omega) h2
    · rw [if_neg h2];exact cmp_p2 (by omega) (by omega)
theorem t91_p0{n:Int}{r0:Bool}(er0:r0=(within n (0:Int) (30:Int))){base:Nat}:FV Tryz.prog 94 [(.p (intP n))] base (.p (blP r0)) []:=by
  subst er0
  exact FV.fin Tryz.func94 rfl (o:=[.c (.p (blP (within n (0:Int) (30:Int)))) []]) (l:=[FC Tryz.prog 92 [(.p (intP n)),(.p (intP 0)),(.p (intP 30))] [] 0 (.p (blP (within n (0:Int) (30:Int)))) []]) (by kernel_rfl) (gc (FV.fc (within_ok n (0:Int) (30:Int)) rfl) gn)
theorem t91_ok(n:Int){base:Nat}:FV Tryz.prog 94 [.p (intP n)] base (.p (blP (within n 0 30))) []:=t91_p0 rfl
theorem t92_p0{n:Int}{r0:Bool}(er0:r0=(within n (0:Int) (20:Int))){base:Nat}:FV Tryz.prog 95 [(.p (intP n))] base (.p (blP r0)) []:=by
  subst er0
  exact FV.fin Tryz.func95 rfl (o:=[.c (.p (blP (within n (0:Int) (20:Int)))) []]) (l:=[FC Tryz.prog 92 [(.p (intP n)),(.p (intP 0)),(.p (intP 20))] [] 0 (.p (blP (within n (0:Int) (20:Int)))) []]) (by kernel_rfl) (gc (FV.fc (within_ok n (0:Int) (20:Int)) rfl) gn)
theorem t92_ok(n:Int){base:Nat}:FV Tryz.prog 95 [.p (intP n)] base (.p (blP (within n 0 20))) []:=t92_p0 rfl
theorem all91N_p0{x:Int}{r0:Bool}(er0:r0=(!(within x 0 30))):FMM Tryz.prog 151 [(.p (intP x)),(.ptr 0 0)] [some (.box 98 [(.fn 94 [] [])])] (.p (blP r0)) [some (.box 98 [(.fn 94 [] [])])]:=by
  subst er0
  exact FMM.fin (k:=1) (g:=⟨[],[],[],[]⟩) rfl Tryz.func151 rfl (o:=[.c (.p (blP (within x 0 30))) []]) (l:=[FC Tryz.prog 94 [(.p (intP x))] [] 1 (.p (blP (within x 0 30))) []]) (by kernel_rfl) (gc (FV.fc (t91_ok x) rfl) gn)
theorem all91N_ok(x:Int)  : FMM Tryz.prog 151 [(.p (intP x)),.ptr 0 0] [some (.box 98 [(.fn 94 [] [])])] (.p (blP (!(within x 0 30)))) [some (.box 98 [(.fn 94 [] [])])]:=all91N_p0 rfl
def all91I_S0(l:List Int)(i:Nat):St:=⟨fr 19 [(0,(.p (intsP l))),(1,(.fn 151 [] [(.ptr 0 0)])),(7,(.p (intP (l.length:Int)))),(8,(.p (intP (i:Int))))],[some (.box 98 [(.fn 94 [] [])])]⟩
theorem all91I_p0{l:List Int}{i'0:Nat}(hl0:LoopOK Tryz.prog 1 (sub (cd Tryz.f138) [1,0,1,0,0]) (all91I_S0 l 0) (.exit 0) (all91I_S0 l i'0)):FMM Tryz.prog 138 [(.p (intsP l)),(.fn 151 [] [(.ptr 0 0)])] [some (.box 98 [(.fn 94 [] [])])] (.p (intP (-1:Int))) [some (.box 98 [(.fn 94 [] [])])]:=by
  exact FMM.fin (k:=1) (g:=⟨[],[],[],[]⟩) rfl Tryz.func138 rfl (o:=[.k 6 ⟨(rng [(2,5),(9,10)]),[],[],[]⟩ (.exit 0) (all91I_S0 l i'0)]) (l:=[CodeOK Tryz.prog 1 (.loop (sub (cd Tryz.f138) [1,0,1,0,0])) (all91I_S0 l 0) (.exit 0) (all91I_S0 l i'0)]) (by kernel_rfl) (gc hl0.code gn)
theorem all91I_p1{l:List Int}{i'0:Nat}(hl0:LoopOK Tryz.prog 1 (sub (cd Tryz.f138) [1,0,1,0,0]) (all91I_S0 l 0) .ret (setS (all91I_S0 l i'0) [(4,(.p (intP (i'0:Int))))])):FMM Tryz.prog 138 [(.p (intsP l)),(.fn 151 [] [(.ptr 0 0)])] [some (.box 98 [(.fn 94 [] [])])] (.p (intP (i'0:Int))) [some (.box 98 [(.fn 94 [] [])])]:=by
  exact FMM.fin (k:=1) (g:=⟨[],[],[],[]⟩) rfl Tryz.func138 rfl (o:=[.k 6 ⟨(rng [(2,5),(9,10)]),[],[],[]⟩ .ret (setS (all91I_S0 l i'0) [(4,(.p (intP (i'0:Int))))])]) (l:=[CodeOK Tryz.prog 1 (.loop (sub (cd Tryz.f138) [1,0,1,0,0])) (all91I_S0 l 0) .ret (setS (all91I_S0 l i'0) [(4,(.p (intP (i'0:Int))))])]) (by kernel_rfl) (gc hl0.code gn)
theorem all91I_L0_p0{l:List Int}{i:Nat}{x100:Int}(h0:(i:Int)<(l.length:Int))(h1:l[i]? = some x100)(h2:(within x100 0 30)=false):CodeOK Tryz.prog 1 (sub (cd Tryz.f138) [1,0,1,0,0]) (all91I_S0 l i) .ret (setS (all91I_S0 l i) [(4,(.p (intP (i:Int))))]):=by
  exact CodeOK.fin (g:=⟨(rng [(2,2),(5,2),(9,10)]),[],[],[]⟩) (o:=[.b true,.x (intP x100),.c (.p (blP (!(within x100 0 30)))) [(0,(.box 98 [(.fn 94 [] [])]))],.b true]) (l:=[(!(within x100 0 30))=true,FC Tryz.prog 151 [(.p (intP x100)),(.ptr 0 0)] [(0,(.box 98 [(.fn 94 [] [])]))] 1 (.p (blP (!(within x100 0 30)))) [(0,(.box 98 [(.fn 94 [] [])]))],(l.map intP)[(i*1)]? = some (intP x100),0≤(i:Int)∧(i:Int)<(l.length:Int)∧(i*1)<(l.map intP).length,(decide ((i:Int)<(l.length:Int)))=true]) (by kernel_rfl) (gc (q_not h2) (gc (FMM.fc (ids:=[0]) (all91N_ok x100) (by kernel_rfl)) (gc (at_map (i:=i) h1) (gc (ix_map (i:=(i:Int)) (Int.natCast_nonneg _) h1) (gc (q_lt h0) gn)))))
theorem all91I_L0_p1{l:List Int}{i:Nat}{x100:Int}{i':Nat}(h0:(i:Int)<(l.length:Int))(h1:l[i]? = some x100)(h2:(within x100 0 30)=true)(h3:inR (((i+1):Nat):Int))(ei':i'=(i+1)):CodeOK Tryz.prog 1 (sub (cd Tryz.f138) [1,0,1,0,0]) (all91I_S0 l i) .normal (all91I_S0 l i'):=by
  subst ei'
  exact CodeOK.fin (g:=⟨(rng [(2,5),(9,10)]),[],[],[]⟩) (o:=[.b true,.x (intP x100),.c (.p (blP (!(within x100 0 30)))) [(0,(.box 98 [(.fn 94 [] [])]))],.b false]) (l:=[inR (((i+1):Nat):Int),(!(within x100 0 30))=false,FC Tryz.prog 151 [(.p (intP x100)),(.ptr 0 0)] [(0,(.box 98 [(.fn 94 [] [])]))] 1 (.p (blP (!(within x100 0 30)))) [(0,(.box 98 [(.fn 94 [] [])]))],(l.map intP)[(i*1)]? = some (intP x100),0≤(i:Int)∧(i:Int)<(l.length:Int)∧(i*1)<(l.map intP).length,(decide ((i:Int)<(l.length:Int)))=true]) (by kernel_rfl) (gc h3 (gc (q_notF h2) (gc (FMM.fc (ids:=[0]) (all91N_ok x100) (by kernel_rfl)) (gc (at_map (i:=i) h1) (gc (ix_map (i:=(i:Int)) (Int.natCast_nonneg _) h1) (gc (q_lt h0) gn))))))
theorem all91I_L0_p2{l:List Int}{i:Nat}(h0:(l.length:Int)≤(i:Int)):CodeOK Tryz.prog 1 (sub (cd Tryz.f138) [1,0,1,0,0]) (all91I_S0 l i) (.exit 0) (all91I_S0 l i):=by
  exact CodeOK.fin (g:=⟨(rng [(2,5),(9,10)]),[],[],[]⟩) (o:=[.b false]) (l:=[(decide ((i:Int)<(l.length:Int)))=false]) (by kernel_rfl) (gc (q_ltF h0) gn)
theorem all91I_ok(l:List Int)(hl:small l.length):FMM Tryz.prog 138 [.p (intsP l),(.fn 151 [] [(.ptr 0 0)])] [some (.box 98 [(.fn 94 [] [])])] (.p (intP (idxF (fun x => !(within x 0 30)) l))) [some (.box 98 [(.fn 94 [] [])])]:=by
  rcases LoopOK.find (P:=Tryz.prog) (k:=1) (b:=sub (cd Tryz.f138) [1,0,1,0,0]) (fun i=>all91I_S0 l i) (fun i _=>setS (all91I_S0 l i) [(4,.p (intP (i:Int)))]) (all91I_S0 l l.length) .ret (.exit 0) (by simp) (by simp) (fun x => !(within x 0 30)) l
    (fun i x hx hp=>all91I_L0_p1 (by have:=lt_of_at hx;omega) hx (by simpa using hp) (inR_nat (by have:=lt_of_at hx;omega)) rfl)
    (fun i x hx hp=>all91I_L0_p0 (by have:=lt_of_at hx;omega) hx (by simpa using hp))
    (all91I_L0_p2 (l:=l) (i:=l.length) (by omega)) with ⟨i,x,h1,h2,h3,h4⟩ | ⟨h1,h2,h3⟩
  · rw [idxF_some h2];exact all91I_p1 h4
  · rw [idxF_none h1];exact all91I_p0 h3
theorem all91C_p0{l:List Int}{r0:Bool}(h0:small l.length)(er0:r0=(decide ((idxF (fun x => !(within x 0 30)) l) ≥ (0:Int)))):FMM Tryz.prog 69 [(.p (intsP l)),(.fn 151 [] [(.ptr 0 0)])] [some (.box 98 [(.fn 94 [] [])])] (.p (blP r0)) [some (.box 98 [(.fn 94 [] [])])]:=by
  subst er0
  exact FMM.fin (k:=1) (g:=⟨[],[],[],[]⟩) rfl Tryz.func69 rfl (o:=[.c (.p (intP (idxF (fun x => !(within x 0 30)) l))) [(0,(.box 98 [(.fn 94 [] [])]))]]) (l:=[FC Tryz.prog 138 [(.p (intsP l)),(.fn 151 [] [(.ptr 0 0)])] [(0,(.box 98 [(.fn 94 [] [])]))] 1 (.p (intP (idxF (fun x => !(within x 0 30)) l))) [(0,(.box 98 [(.fn 94 [] [])]))]]) (by kernel_rfl) (gc (FMM.fc (ids:=[0]) (all91I_ok l h0) (by kernel_rfl)) gn)
theorem all91C_ok(l:List Int)(hl:small l.length):FMM Tryz.prog 69 [.p (intsP l),(.fn 151 [] [(.ptr 0 0)])] [some (.box 98 [(.fn 94 [] [])])] (.p (blP (l.any fun x => !(within x 0 30)))) [some (.box 98 [(.fn 94 [] [])])]:=all91C_p0 hl (idxF_any _ _).symm
theorem all91_p0{l:List Int}{r0:Bool}(h0:small l.length)(er0:r0=(!(l.any fun x => !(within x 0 30)))){base:Nat}:FV Tryz.prog 93 [(.p (intsP l)),(.fn 94 [] [])] base (.p (blP r0)) []:=by
  subst er0
  exact FV.fin Tryz.func93 rfl (o:=[.c (.p (blP (l.any fun x => !(within x 0 30)))) [(0,(.box 98 [(.fn 94 [] [])]))]]) (l:=[FC Tryz.prog 69 [(.p (intsP l)),(.fn 151 [] [(.ptr 0 0)])] [(0,(.box 98 [(.fn 94 [] [])]))] 1 (.p (blP (l.any fun x => !(within x 0 30)))) [(0,(.box 98 [(.fn 94 [] [])]))]]) (by kernel_rfl) (gc (FMM.fc (ids:=[0]) (all91C_ok l h0) (by kernel_rfl)) gn)
theorem all91_ok(l:List Int)(hl:small l.length){base:Nat}:FV Tryz.prog 93 [.p (intsP l),(.fn 94 [] [])] base (.p (blP (l.all fun x=>within x 0 30))) []:=all91_p0 hl (by rw [List.all_eq_not_any_not])
theorem all92N_p0{x:Int}{r0:Bool}(er0:r0=(!(within x 0 20))):FMM Tryz.prog 151 [(.p (intP x)),(.ptr 0 0)] [some (.box 98 [(.fn 95 [] [])])] (.p (blP r0)) [some (.box 98 [(.fn 95 [] [])])]:=by
  subst er0
  exact FMM.fin (k:=1) (g:=⟨[],[],[],[]⟩) rfl Tryz.func151 rfl (o:=[.c (.p (blP (within x 0 20))) []]) (l:=[FC Tryz.prog 95 [(.p (intP x))] [] 1 (.p (blP (within x 0 20))) []]) (by kernel_rfl) (gc (FV.fc (t92_ok x) rfl) gn)
theorem all92N_ok(x:Int)  : FMM Tryz.prog 151 [(.p (intP x)),.ptr 0 0] [some (.box 98 [(.fn 95 [] [])])] (.p (blP (!(within x 0 20)))) [some (.box 98 [(.fn 95 [] [])])]:=all92N_p0 rfl
def all92I_S0(l:List Int)(i:Nat):St:=⟨fr 19 [(0,(.p (intsP l))),(1,(.fn 151 [] [(.ptr 0 0)])),(7,(.p (intP (l.length:Int)))),(8,(.p (intP (i:Int))))],[some (.box 98 [(.fn 95 [] [])])]⟩
theorem all92I_p0{l:List Int}{i'0:Nat}(hl0:LoopOK Tryz.prog 1 (sub (cd Tryz.f138) [1,0,1,0,0]) (all92I_S0 l 0) (.exit 0) (all92I_S0 l i'0)):FMM Tryz.prog 138 [(.p (intsP l)),(.fn 151 [] [(.ptr 0 0)])] [some (.box 98 [(.fn 95 [] [])])] (.p (intP (-1:Int))) [some (.box 98 [(.fn 95 [] [])])]:=by
  exact FMM.fin (k:=1) (g:=⟨[],[],[],[]⟩) rfl Tryz.func138 rfl (o:=[.k 6 ⟨(rng [(2,5),(9,10)]),[],[],[]⟩ (.exit 0) (all92I_S0 l i'0)]) (l:=[CodeOK Tryz.prog 1 (.loop (sub (cd Tryz.f138) [1,0,1,0,0])) (all92I_S0 l 0) (.exit 0) (all92I_S0 l i'0)]) (by kernel_rfl) (gc hl0.code gn)
theorem all92I_p1{l:List Int}{i'0:Nat}(hl0:LoopOK Tryz.prog 1 (sub (cd Tryz.f138) [1,0,1,0,0]) (all92I_S0 l 0) .ret (setS (all92I_S0 l i'0) [(4,(.p (intP (i'0:Int))))])):FMM Tryz.prog 138 [(.p (intsP l)),(.fn 151 [] [(.ptr 0 0)])] [some (.box 98 [(.fn 95 [] [])])] (.p (intP (i'0:Int))) [some (.box 98 [(.fn 95 [] [])])]:=by
  exact FMM.fin (k:=1) (g:=⟨[],[],[],[]⟩) rfl Tryz.func138 rfl (o:=[.k 6 ⟨(rng [(2,5),(9,10)]),[],[],[]⟩ .ret (setS (all92I_S0 l i'0) [(4,(.p (intP (i'0:Int))))])]) (l:=[CodeOK Tryz.prog 1 (.loop (sub (cd Tryz.f138) [1,0,1,0,0])) (all92I_S0 l 0) .ret (setS (all92I_S0 l i'0) [(4,(.p (intP (i'0:Int))))])]) (by kernel_rfl) (gc hl0.code gn)
theorem all92I_L0_p0{l:List Int}{i:Nat}{x100:Int}(h0:(i:Int)<(l.length:Int))(h1:l[i]? = some x100)(h2:(within x100 0 20)=false):CodeOK Tryz.prog 1 (sub (cd Tryz.f138) [1,0,1,0,0]) (all92I_S0 l i) .ret (setS (all92I_S0 l i) [(4,(.p (intP (i:Int))))]):=by
  exact CodeOK.fin (g:=⟨(rng [(2,2),(5,2),(9,10)]),[],[],[]⟩) (o:=[.b true,.x (intP x100),.c (.p (blP (!(within x100 0 20)))) [(0,(.box 98 [(.fn 95 [] [])]))],.b true]) (l:=[(!(within x100 0 20))=true,FC Tryz.prog 151 [(.p (intP x100)),(.ptr 0 0)] [(0,(.box 98 [(.fn 95 [] [])]))] 1 (.p (blP (!(within x100 0 20)))) [(0,(.box 98 [(.fn 95 [] [])]))],(l.map intP)[(i*1)]? = some (intP x100),0≤(i:Int)∧(i:Int)<(l.length:Int)∧(i*1)<(l.map intP).length,(decide ((i:Int)<(l.length:Int)))=true]) (by kernel_rfl) (gc (q_not h2) (gc (FMM.fc (ids:=[0]) (all92N_ok x100) (by kernel_rfl)) (gc (at_map (i:=i) h1) (gc (ix_map (i:=(i:Int)) (Int.natCast_nonneg _) h1) (gc (q_lt h0) gn)))))
theorem all92I_L0_p1{l:List Int}{i:Nat}{x100:Int}{i':Nat}(h0:(i:Int)<(l.length:Int))(h1:l[i]? = some x100)(h2:(within x100 0 20)=true)(h3:inR (((i+1):Nat):Int))(ei':i'=(i+1)):CodeOK Tryz.prog 1 (sub (cd Tryz.f138) [1,0,1,0,0]) (all92I_S0 l i) .normal (all92I_S0 l i'):=by
  subst ei'
  exact CodeOK.fin (g:=⟨(rng [(2,5),(9,10)]),[],[],[]⟩) (o:=[.b true,.x (intP x100),.c (.p (blP (!(within x100 0 20)))) [(0,(.box 98 [(.fn 95 [] [])]))],.b false]) (l:=[inR (((i+1):Nat):Int),(!(within x100 0 20))=false,FC Tryz.prog 151 [(.p (intP x100)),(.ptr 0 0)] [(0,(.box 98 [(.fn 95 [] [])]))] 1 (.p (blP (!(within x100 0 20)))) [(0,(.box 98 [(.fn 95 [] [])]))],(l.map intP)[(i*1)]? = some (intP x100),0≤(i:Int)∧(i:Int)<(l.length:Int)∧(i*1)<(l.map intP).length,(decide ((i:Int)<(l.length:Int)))=true]) (by kernel_rfl) (gc h3 (gc (q_notF h2) (gc (FMM.fc (ids:=[0]) (all92N_ok x100) (by kernel_rfl)) (gc (at_map (i:=i) h1) (gc (ix_map (i:=(i:Int)) (Int.natCast_nonneg _) h1) (gc (q_lt h0) gn))))))
theorem all92I_L0_p2{l:List Int}{i:Nat}(h0:(l.length:Int)≤(i:Int)):CodeOK Tryz.prog 1 (sub (cd Tryz.f138) [1,0,1,0,0]) (all92I_S0 l i) (.exit 0) (all92I_S0 l i):=by
  exact CodeOK.fin (g:=⟨(rng [(2,5),(9,10)]),[],[],[]⟩) (o:=[.b false]) (l:=[(decide ((i:Int)<(l.length:Int)))=false]) (by kernel_rfl) (gc (q_ltF h0) gn)
theorem all92I_ok(l:List Int)(hl:small l.length):FMM Tryz.prog 138 [.p (intsP l),(.fn 151 [] [(.ptr 0 0)])] [some (.box 98 [(.fn 95 [] [])])] (.p (intP (idxF (fun x => !(within x 0 20)) l))) [some (.box 98 [(.fn 95 [] [])])]:=by
  rcases LoopOK.find (P:=Tryz.prog) (k:=1) (b:=sub (cd Tryz.f138) [1,0,1,0,0]) (fun i=>all92I_S0 l i) (fun i _=>setS (all92I_S0 l i) [(4,.p (intP (i:Int)))]) (all92I_S0 l l.length) .ret (.exit 0) (by simp) (by simp) (fun x => !(within x 0 20)) l
    (fun i x hx hp=>all92I_L0_p1 (by have:=lt_of_at hx;omega) hx (by simpa using hp) (inR_nat (by have:=lt_of_at hx;omega)) rfl)
    (fun i x hx hp=>all92I_L0_p0 (by have:=lt_of_at hx;omega) hx (by simpa using hp))
    (all92I_L0_p2 (l:=l) (i:=l.length) (by omega)) with ⟨i,x,h1,h2,h3,h4⟩ | ⟨h1,h2,h3⟩
  · rw [idxF_some h2];exact all92I_p1 h4
  · rw [idxF_none h1];exact all92I_p0 h3
theorem all92C_p0{l:List Int}{r0:Bool}(h0:small l.length)(er0:r0=(decide ((idxF (fun x => !(within x 0 20)) l) ≥ (0:Int)))):FMM Tryz.prog 69 [(.p (intsP l)),(.fn 151 [] [(.ptr 0 0)])] [some (.box 98 [(.fn 95 [] [])])] (.p (blP r0)) [some (.box 98 [(.fn 95 [] [])])]:=by
  subst er0
  exact FMM.fin (k:=1) (g:=⟨[],[],[],[]⟩) rfl Tryz.func69 rfl (o:=[.c (.p (intP (idxF (fun x => !(within x 0 20)) l))) [(0,(.box 98 [(.fn 95 [] [])]))]]) (l:=[FC Tryz.prog 138 [(.p (intsP l)),(.fn 151 [] [(.ptr 0 0)])] [(0,(.box 98 [(.fn 95 [] [])]))] 1 (.p (intP (idxF (fun x => !(within x 0 20)) l))) [(0,(.box 98 [(.fn 95 [] [])]))]]) (by kernel_rfl) (gc (FMM.fc (ids:=[0]) (all92I_ok l h0) (by kernel_rfl)) gn)
theorem all92C_ok(l:List Int)(hl:small l.length):FMM Tryz.prog 69 [.p (intsP l),(.fn 151 [] [(.ptr 0 0)])] [some (.box 98 [(.fn 95 [] [])])] (.p (blP (l.any fun x => !(within x 0 20)))) [some (.box 98 [(.fn 95 [] [])])]:=all92C_p0 hl (idxF_any _ _).symm
theorem all92_p0{l:List Int}{r0:Bool}(h0:small l.length)(er0:r0=(!(l.any fun x => !(within x 0 20)))){base:Nat}:FV Tryz.prog 93 [(.p (intsP l)),(.fn 95 [] [])] base (.p (blP r0)) []:=by
  subst er0
  exact FV.fin Tryz.func93 rfl (o:=[.c (.p (blP (l.any fun x => !(within x 0 20)))) [(0,(.box 98 [(.fn 95 [] [])]))]]) (l:=[FC Tryz.prog 69 [(.p (intsP l)),(.fn 151 [] [(.ptr 0 0)])] [(0,(.box 98 [(.fn 95 [] [])]))] 1 (.p (blP (l.any fun x => !(within x 0 20)))) [(0,(.box 98 [(.fn 95 [] [])]))]]) (by kernel_rfl) (gc (FMM.fc (ids:=[0]) (all92C_ok l h0) (by kernel_rfl)) gn)
theorem all92_ok(l:List Int)(hl:small l.length){base:Nat}:FV Tryz.prog 93 [.p (intsP l),(.fn 95 [] [])] base (.p (blP (l.all fun x=>within x 0 20))) []:=all92_p0 hl (by rw [List.all_eq_not_any_not])
end
section
open KL
noncomputable abbrev zK3c0:Code:=sub (cd Tryz.f113) [1,1,0,1,0,0]
noncomputable abbrev zK3c1:Code:=sub (cd Tryz.f118) [1,1,1,1,1,1,0,1,0,0]
def with_S0(c:Cup)(fs:List (List Int))(i:Nat)(Ln:Nat)(Lc:List PV):St:=⟨fr 56 [(4,(.ptr 0 0)),(5,(.ptr 1 0)),(40,(.own 3)),(41,(.p (intP (((c.done.length+fs.length):Nat):Int)))),(42,(.p (intP (i:Int))))],[some (.box 129 [(.p (intP 0)),(.p (intP 0)),(.p (intP 0)),(.p nilS),(.p nilS)]),some (.box 25 [(.p (intP c.sk)),(.p (intP c.ra)),(.p (intP c.be)),(.own 2),(.own 3)]),some (.row 3 c.pts.length (c.pts.map intP)),some (.row 22 Ln Lc)]⟩
theorem with_p0{c:Cup}{fs:List (List Int)}{i'0:Nat}{L'1:List (List Int)}(h0:c.pts.length≤1000)(h1:inR (((c.done.length+fs.length):Nat):Int))(h2:0≤(c.done.length:Int)∧(c.done.length:Int)≤(((c.done.length+fs.length):Nat):Int)∧(((c.done.length+fs.length):Nat):Int)≤1000000)(h3:(fs.map intsP).length=fs.length*1∧c.done.length+fs.length≤1000000)(hl4:LoopOK Tryz.prog 0 zK3c1 (with_S0 c fs 0 (c.done.length+fs.length) ((c.done.map intsP)++(fs.map intsP))) (.exit 0) (with_S0 c fs i'0 L'1.length (L'1.map intsP))){base:Nat}:FV Tryz.prog 118 [(.p (cupP c)),(.p (rowsP fs))] base (.p (.agg [(intP c.sk),(intP c.ra),(intP c.be),(intsP c.pts),(rowsP L'1)])) []:=by
  exact FV.fin Tryz.func118 rfl (o:=[.c (.own 3) [(3,(.row 3 c.pts.length (c.pts.map intP)))],.k 10 ⟨(rng [(0,4),(6,34),(43,11)]),[1,2,3,5],[],[]⟩ (.exit 0) (with_S0 c fs i'0 L'1.length (L'1.map intsP))]) (l:=[_,_,(c.done.map intsP).length=c.done.length∧c.done.length=c.done.length,_,_,_]) (by kernel_rfl) (gc hl4.code (gc h3 (gc (by simp) (gc h2 (gc h1 (gc (fk 3 (cloneI_ok c.pts h0) rfl) gn))))))
theorem with_L0_p0{c:Cup}{fs:List (List Int)}{i:Nat}{L:List (List Int)}{x100:List Int}{i':Nat}{L':List (List Int)}(h0:(i:Int)<(((c.done.length+fs.length):Nat):Int))(h1:L[i]? = some x100)(h2:x100.length≤1000)(h3:(i*1)<(L.map intsP).length)(h4:inR (((i+1):Nat):Int))(ei':i'=(i+1))(eL'n:L'.length=L.length)(eL'c:L'.map intsP=((L.map intsP).set (i*1) (intsP x100))):CodeOK Tryz.prog 0 zK3c1 (with_S0 c fs i L.length (L.map intsP)) .normal (with_S0 c fs i' L'.length (L'.map intsP)):=by
  subst ei'
  have raw:CodeOK Tryz.prog 0 zK3c1 (with_S0 c fs i L.length (L.map intsP)) .normal (with_S0 c fs (i+1) L.length ((L.map intsP).set (i*1) (intsP x100))):=CodeOK.fin (g:=⟨(rng [(0,4),(6,34),(43,11)]),[0,1,2,3],[],[]⟩) (o:=[bT,.x (intsP x100),.c (.own 4) [(4,(.row 3 x100.length (x100.map intP)))]]) (l:=[_,_,_,_,_,_,_]) (by kernel_rfl) (gc h4 (gc h3 (gc (ix_own (i:=(i:Int)) (Int.natCast_nonneg _) h1) (gc (fk 4 (cloneI_ok x100 h2) rfl) (gc (atm intsP h1) (gc (ix_own (i:=(i:Int)) (Int.natCast_nonneg _) h1) (gc (q_lt h0) gn)))))))
  exact raw.cast (by rw [eL'n,eL'c])
theorem with_L0_p1{c:Cup}{fs:List (List Int)}{i:Nat}{L:List (List Int)}(h0:(((c.done.length+fs.length):Nat):Int)≤(i:Int)):CodeOK Tryz.prog 0 zK3c1 (with_S0 c fs i L.length (L.map intsP)) (.exit 0) (with_S0 c fs i L.length (L.map intsP)):=by
  exact CodeOK.fin (g:=⟨(rng [(0,4),(6,34),(43,11)]),[0,1,2,3],[],[]⟩) (o:=[bF]) (l:=[_]) (by kernel_rfl) (gc (q_ltF h0) gn)
theorem with_ok(c:Cup)(fs:List (List Int))(hpl:c.pts.length≤1000)(hdl:c.done.length+fs.length≤1000)(hrl:∀ r∈c.done++fs,r.length≤1000){base:Nat} :
    FV Tryz.prog 118 [.p (cupP c),.p (rowsP fs)] base (.p (cupP (withC c fs))) []:=by
  have h:=LoopOK.range (P:=Tryz.prog) (k:=0) (b:=zK3c1) (e := .exit 0) (fun i (_:Unit)=>with_S0 c fs i (c.done++fs).length ((c.done++fs).map intsP)) (fun _=>with_S0 c fs (c.done++fs).length (c.done++fs).length ((c.done++fs).map intsP)) (fun a _=>a) (fun _ _=>True) (by simp) (c.done++fs) (a0:=()) trivial
    (fun i x _ hx _=>⟨trivial,with_L0_p0 (by have:=lt_of_at hx;rw [List.length_append] at this;omega) hx (hrl x (List.mem_of_getElem? hx)) (by have:=lt_of_at hx;simpa using this) (inR_nat (by have:=lt_of_at hx;rw [List.length_append] at this;omega)) rfl rfl (by
      apply List.ext_getElem?
      intro j
      rw [List.getElem?_set,Nat.mul_one]
      split
      · rename_i e;subst e
        have:=lt_of_at hx
        rw [List.getElem?_map,hx,if_pos (by simpa using this)];rfl
      · rfl)⟩)
    (fun _ _=>with_L0_p1 (L:=c.done++fs) (by rw [List.length_append];omega))
  refine with_p0 (L'1:=c.done++fs) (i'0:=(c.done++fs).length) hpl (inR_nat (by omega)) (by omega) (by simp;omega) ?_
  simpa using h
theorem asked_p0{c:Cup}{r0:Int}(h0:KL.Small c)(er0:r0=(checkP c)){base:Nat}:FV Tryz.prog 91 [(.p (cupP c))] base (.tup [(.p (cupP c)),(.p (intP r0))]) []:=by
  subst er0
  exact FV.fin Tryz.func91 rfl (o:=[.c (.p (intP (checkP c))) []]) (l:=[_]) (by kernel_rfl) (gc (fk 2 (check_ok c h0) rfl) gn)
theorem asked_ok(c:Cup)(hS:KL.Small c){base:Nat}:FV Tryz.prog 91 [.p (cupP c)] base (.tup [.p (cupP c),.p (intP (checkP c))]) []:=asked_p0 hS rfl
theorem named_p0{c:Cup}{k:Int}(h0:KL.Small c)(h1:(checkP c)=(0:Int))(h2:inR (c.sk-(1:Int)))(h3:(within k (0:Int) (c.sk-(1:Int)))=false){base:Nat}:FV Tryz.prog 110 [(.p (cupP c)),(.p (intP k))] base (.tup [(.p (cupP c)),(.p (intP 1))]) []:=by
  exact FV.fin Tryz.func110 rfl (o:=[.c (.tup [(.p (cupP c)),(.p (intP (checkP c)))]) [],bT,bT,bT,bT,bT,.c (.p (blP (within k (0:Int) (c.sk-(1:Int))))) [],bT,bT,bT]) (l:=[_,_,_,_,_,_,_,_,_,_,_]) (by kernel_rfl) (gc (q_not h3) (gc (q_eq h1) (gc (q_eq h1) (gc (fk 3 (within_ok k (0:Int) (c.sk-(1:Int))) rfl) (gc (q_eq h1) (gc h2 (gc (q_eq h1) (gc (q_eq h1) (gc (q_eq h1) (gc (q_eq h1) (gc (fk 2 (asked_ok c h0) rfl) gn)))))))))))
theorem named_p1{c:Cup}{k r0:Int}(h0:KL.Small c)(h1:(checkP c)=(0:Int))(h2:inR (c.sk-(1:Int)))(h3:(within k (0:Int) (c.sk-(1:Int)))=true)(er0:r0=(checkP c)){base:Nat}:FV Tryz.prog 110 [(.p (cupP c)),(.p (intP k))] base (.tup [(.p (cupP c)),(.p (intP r0))]) []:=by
  subst er0
  exact FV.fin Tryz.func110 rfl (o:=[.c (.tup [(.p (cupP c)),(.p (intP (checkP c)))]) [],bT,bT,bT,bT,bT,.c (.p (blP (within k (0:Int) (c.sk-(1:Int))))) [],bT,bT,bF]) (l:=[_,_,_,_,_,_,_,_,_,_,_]) (by kernel_rfl) (gc (q_notF h3) (gc (q_eq h1) (gc (q_eq h1) (gc (fk 3 (within_ok k (0:Int) (c.sk-(1:Int))) rfl) (gc (q_eq h1) (gc h2 (gc (q_eq h1) (gc (q_eq h1) (gc (q_eq h1) (gc (q_eq h1) (gc (fk 2 (asked_ok c h0) rfl) gn)))))))))))
theorem named_p2{c:Cup}{k r0:Int}(h0:KL.Small c)(h1:(checkP c)≠(0:Int))(er0:r0=(checkP c)){base:Nat}:FV Tryz.prog 110 [(.p (cupP c)),(.p (intP k))] base (.tup [(.p (cupP c)),(.p (intP r0))]) []:=by
  subst er0
  exact FV.fin Tryz.func110 rfl (o:=[.c (.tup [(.p (cupP c)),(.p (intP (checkP c)))]) [],bF,bF,bF,bF,bF,bF,bF]) (l:=[_,_,_,_,_,_,_,_]) (by kernel_rfl) (gc (q_ne h1) (gc (q_ne h1) (gc (q_ne h1) (gc (q_ne h1) (gc (q_ne h1) (gc (q_ne h1) (gc (q_ne h1) (gc (fk 2 (asked_ok c h0) rfl) gn))))))))
theorem within_iff{n lo hi:Int}:within n lo hi=true↔lo≤n∧n≤hi:=by unfold within;simp
def namedE(c:Cup)(k:Int):Int:=if checkP c≠0 then checkP c else if within k 0 (c.sk-1) then 0 else 1
theorem named_ok(c:Cup)(hS:KL.Small c)(k:Int){base:Nat}:FV Tryz.prog 110 [.p (cupP c),.p (intP k)] base (.tup [.p (cupP c),.p (intP (namedE c k))]) []:=by
  unfold namedE
  by_cases h:checkP c=0
  · have hV:=(KL.valid_iff c).1 h
    have h1:=hV.sk1
    have h2:=hV.sk2
    rw [if_neg (by simpa using h)]
    cases hw:within k 0 (c.sk-1) with
    | true=>exact named_p1 hS h (by unfold inR;omega) hw (by simp [h])
    | false=>exact named_p0 hS h (by unfold inR;omega) hw
  · rw [if_pos h];exact named_p2 hS h rfl
def whoM(p:Nat→Bool)(n:Nat):List Int:=((List.range n).filter p).map fun (s:Nat)=>(s:Int)
theorem canQ_p0{base:Nat}:FV Tryz.prog 112 [] base (.agg [(.fn 140 [] [])]) []:=by
  exact FV.fin Tryz.func112 rfl (o:=[]) (l:=[]) (by kernel_rfl) (gn)
def canA_S0(c:Cup)(i:Nat)(on:Nat)(oc:List PV):St:=⟨fr 24 [(2,(.ptr 0 0)),(3,(.ptr 1 0)),(4,(.p nilS)),(5,(.own 2)),(9,(.p (intP c.sk))),(10,(.p (intP (i:Int))))],[some (.box 153 [(.fn 140 [] [])]),some (.box 129 [(.p (intP c.sk)),(.p (intP c.ra)),(.p (intP c.be)),(.p (intsP c.pts)),(.p (rowsP c.done))]),some (.row 3 on oc)]⟩
theorem canA_p0{c:Cup}{i'0:Nat}{o'1:List Int}(hl0:LoopOK Tryz.prog 0 zK3c0 (canA_S0 c 0 0 []) (.exit 0) (canA_S0 c i'0 o'1.length (o'1.map intP))){base:Nat}:FV Tryz.prog 113 [(.agg [(.fn 140 [] [])]),(.p (cupP c))] base (.p (intsP o'1)) []:=by
  exact FV.frz (FMM.fin (k:=0) (g:=⟨[],[],[2],[]⟩) rfl Tryz.func113 rfl (o:=[.k 8 ⟨(rng [(0,2),(6,3),(11,12)]),[0,1,2],[],[(5,3)]⟩ (.exit 0) (canA_S0 c i'0 o'1.length (o'1.map intP))]) (l:=[_]) (by kernel_rfl) (gc hl0.code gn)) (by kernel_rfl)
theorem canA_L0_p0{c:Cup}{i:Nat}{o:List Int}{i':Nat}{o':List Int}(h0:(i:Int)<c.sk)(h1:KL.Valid c)(h2:((i:Nat):Int)<c.sk)(h3:(canM c i)=true)(h4:[(intP (i:Int))].length=1*1∧o.length+1≤1000000)(h5:inR (((i+1):Nat):Int))(ei':i'=(i+1))(eo'n:o'.length=(o.length+1))(eo'c:o'.map intP=((o.map intP)++[(intP (i:Int))])):CodeOK Tryz.prog 0 zK3c0 (canA_S0 c i o.length (o.map intP)) .normal (canA_S0 c i' o'.length (o'.map intP)):=by
  subst ei'
  have raw:CodeOK Tryz.prog 0 zK3c0 (canA_S0 c i o.length (o.map intP)) .normal (canA_S0 c (i+1) (o.length+1) ((o.map intP)++[(intP (i:Int))])):=CodeOK.fin (g:=⟨(rng [(0,2),(6,3),(11,12)]),[0,1,4],[],[]⟩) (o:=[bT,.c (.p (blP (canM c i))) [],bT]) (l:=[_,_,_,_,_]) (by kernel_rfl) (gc h5 (gc h4 (gc h3 (gc (fk 3 (can_ok c h1 i h2) rfl) (gc (q_lt h0) gn)))))
  exact raw.cast (by rw [eo'n,eo'c])
theorem canA_L0_p1{c:Cup}{i:Nat}{o:List Int}{i':Nat}(h0:(i:Int)<c.sk)(h1:KL.Valid c)(h2:((i:Nat):Int)<c.sk)(h3:(canM c i)=false)(h4:inR (((i+1):Nat):Int))(ei':i'=(i+1)):CodeOK Tryz.prog 0 zK3c0 (canA_S0 c i o.length (o.map intP)) .normal (canA_S0 c i' o.length (o.map intP)):=by
  subst ei'
  exact CodeOK.fin (g:=⟨(rng [(0,2),(6,3),(11,12)]),[0,1,2],[],[]⟩) (o:=[bT,.c (.p (blP (canM c i))) [],bF]) (l:=[_,_,_,_]) (by kernel_rfl) (gc h4 (gc h3 (gc (fk 3 (can_ok c h1 i h2) rfl) (gc (q_lt h0) gn))))
theorem canA_L0_p2{c:Cup}{i:Nat}{o:List Int}(h0:c.sk≤(i:Int)):CodeOK Tryz.prog 0 zK3c0 (canA_S0 c i o.length (o.map intP)) (.exit 0) (canA_S0 c i o.length (o.map intP)):=by
  exact CodeOK.fin (g:=⟨(rng [(0,2),(6,3),(11,12)]),[0,1,2],[],[]⟩) (o:=[bF]) (l:=[_]) (by kernel_rfl) (gc (q_ltF h0) gn)
theorem canA_ok(c:Cup)(hV:KL.Valid c){base:Nat}:FV Tryz.prog 113 [.agg [.fn 140 [] []],.p (cupP c)] base (.p (intsP (whoM (canM c) c.sk.toNat))) []:=by
  have h1:=hV.sk1
  have h2:=hV.sk2
  have h:=LoopOK.times (P:=Tryz.prog) (k:=0) (b:=zK3c0) (e := .exit 0) (fun i (o:List Int)=>canA_S0 c i o.length (o.map intP)) (fun o=>canA_S0 c c.sk.toNat o.length (o.map intP)) (fun acc s=>if canM c s then acc++[(s:Int)] else acc) (fun i o=>o.length≤i) (by simp) c.sk.toNat (a0:=[]) (by simp)
    (fun i o hi hI=>by
      cases hc:canM c i with
      | true=>exact ⟨by simp;omega,canA_L0_p0 (by omega) hV (by omega) hc (by simp;omega) (inR_nat (by omega)) rfl (by simp) (by simp)⟩
      | false=>exact ⟨by simp;omega,canA_L0_p1 (by omega) hV (by omega) hc (inR_nat (by omega)) rfl⟩)
    (fun o _=>canA_L0_p2 (by omega))
  rw [foldl_filter] at h
  exact canA_p0 h
theorem canE_p1{c:Cup}(h0:KL.Small c)(h1:(checkP c)=(0:Int))(h2:KL.Valid c){base:Nat}:FV Tryz.prog 38 [(.p (cupP c))] base (.tup [(.p (intsP (whoM (canM c) c.sk.toNat))),(.p (intP 0))]) []:=by
  exact FV.frz (FMM.fin (k:=0) (g:=⟨[],[],[],[]⟩) rfl Tryz.func38 rfl (o:=[.c (.tup [(.p (cupP c)),(.p (intP (checkP c)))]) [],bF,.c (.agg [(.fn 140 [] [])]) [],.c (.p (intsP (whoM (canM c) c.sk.toNat))) []]) (l:=[_,FC Tryz.prog 112 [] [] 2 (.agg [(.fn 140 [] [])]) [],_,_]) (by kernel_rfl) (gc (fk 6 (canA_ok c h2) rfl) (gc (FV.fc canQ_p0 (by kernel_rfl)) (gc (q_neF h1) (gc (fk 1 (asked_ok c h0) rfl) gn))))) (by kernel_rfl)
theorem canE_ok(c:Cup)(hV:KL.Valid c){base:Nat}:FV Tryz.prog 38 [.p (cupP c)] base (.tup [.p (intsP (whoM (canM c) c.sk.toNat)),.p (intP 0)]) []:=canE_p1 hV.small ((KL.valid_iff c).2 hV) hV
theorem sureQ_p0{base:Nat}:FV Tryz.prog 114 [] base (.agg [(.fn 159 [] [])]) []:=by
  exact FV.fin Tryz.func114 rfl (o:=[]) (l:=[]) (by kernel_rfl) (gn)
def sureA_S0(c:Cup)(i:Nat)(on:Nat)(oc:List PV):St:=⟨fr 24 [(2,(.ptr 0 0)),(3,(.ptr 1 0)),(4,(.p nilS)),(5,(.own 2)),(9,(.p (intP c.sk))),(10,(.p (intP (i:Int))))],[some (.box 153 [(.fn 159 [] [])]),some (.box 129 [(.p (intP c.sk)),(.p (intP c.ra)),(.p (intP c.be)),(.p (intsP c.pts)),(.p (rowsP c.done))]),some (.row 3 on oc)]⟩
theorem sureA_p0{c:Cup}{i'0:Nat}{o'1:List Int}(hl0:LoopOK Tryz.prog 0 zK3c0 (sureA_S0 c 0 0 []) (.exit 0) (sureA_S0 c i'0 o'1.length (o'1.map intP))){base:Nat}:FV Tryz.prog 113 [(.agg [(.fn 159 [] [])]),(.p (cupP c))] base (.p (intsP o'1)) []:=by
  exact FV.frz (FMM.fin (k:=0) (g:=⟨[],[],[2],[]⟩) rfl Tryz.func113 rfl (o:=[.k 8 ⟨(rng [(0,2),(6,3),(11,12)]),[0,1,2],[],[(5,3)]⟩ (.exit 0) (sureA_S0 c i'0 o'1.length (o'1.map intP))]) (l:=[_]) (by kernel_rfl) (gc hl0.code gn)) (by kernel_rfl)
theorem sureA_L0_p0{c:Cup}{i:Nat}{o:List Int}{i':Nat}{o':List Int}(h0:(i:Int)<c.sk)(h1:KL.Valid c)(h2:((i:Nat):Int)<c.sk)(h3:(sureM c i)=true)(h4:[(intP (i:Int))].length=1*1∧o.length+1≤1000000)(h5:inR (((i+1):Nat):Int))(ei':i'=(i+1))(eo'n:o'.length=(o.length+1))(eo'c:o'.map intP=((o.map intP)++[(intP (i:Int))])):CodeOK Tryz.prog 0 zK3c0 (sureA_S0 c i o.length (o.map intP)) .normal (sureA_S0 c i' o'.length (o'.map intP)):=by
  subst ei'
  have raw:CodeOK Tryz.prog 0 zK3c0 (sureA_S0 c i o.length (o.map intP)) .normal (sureA_S0 c (i+1) (o.length+1) ((o.map intP)++[(intP (i:Int))])):=CodeOK.fin (g:=⟨(rng [(0,2),(6,3),(11,12)]),[0,1,4],[],[]⟩) (o:=[bT,.c (.p (blP (sureM c i))) [],bT]) (l:=[_,_,_,_,_]) (by kernel_rfl) (gc h5 (gc h4 (gc h3 (gc (fk 3 (sure_ok c h1 i h2) rfl) (gc (q_lt h0) gn)))))
  exact raw.cast (by rw [eo'n,eo'c])
theorem sureA_L0_p1{c:Cup}{i:Nat}{o:List Int}{i':Nat}(h0:(i:Int)<c.sk)(h1:KL.Valid c)(h2:((i:Nat):Int)<c.sk)(h3:(sureM c i)=false)(h4:inR (((i+1):Nat):Int))(ei':i'=(i+1)):CodeOK Tryz.prog 0 zK3c0 (sureA_S0 c i o.length (o.map intP)) .normal (sureA_S0 c i' o.length (o.map intP)):=by
  subst ei'
  exact CodeOK.fin (g:=⟨(rng [(0,2),(6,3),(11,12)]),[0,1,2],[],[]⟩) (o:=[bT,.c (.p (blP (sureM c i))) [],bF]) (l:=[_,_,_,_]) (by kernel_rfl) (gc h4 (gc h3 (gc (fk 3 (sure_ok c h1 i h2) rfl) (gc (q_lt h0) gn))))
theorem sureA_L0_p2{c:Cup}{i:Nat}{o:List Int}(h0:c.sk≤(i:Int)):CodeOK Tryz.prog 0 zK3c0 (sureA_S0 c i o.length (o.map intP)) (.exit 0) (sureA_S0 c i o.length (o.map intP)):=by
  exact CodeOK.fin (g:=⟨(rng [(0,2),(6,3),(11,12)]),[0,1,2],[],[]⟩) (o:=[bF]) (l:=[_]) (by kernel_rfl) (gc (q_ltF h0) gn)
theorem sureA_ok(c:Cup)(hV:KL.Valid c){base:Nat}:FV Tryz.prog 113 [.agg [.fn 159 [] []],.p (cupP c)] base (.p (intsP (whoM (sureM c) c.sk.toNat))) []:=by
  have h1:=hV.sk1
  have h2:=hV.sk2
  have h:=LoopOK.times (P:=Tryz.prog) (k:=0) (b:=zK3c0) (e := .exit 0) (fun i (o:List Int)=>sureA_S0 c i o.length (o.map intP)) (fun o=>sureA_S0 c c.sk.toNat o.length (o.map intP)) (fun acc s=>if sureM c s then acc++[(s:Int)] else acc) (fun i o=>o.length≤i) (by simp) c.sk.toNat (a0:=[]) (by simp)
    (fun i o hi hI=>by
      cases hc:sureM c i with
      | true=>exact ⟨by simp;omega,sureA_L0_p0 (by omega) hV (by omega) hc (by simp;omega) (inR_nat (by omega)) rfl (by simp) (by simp)⟩
      | false=>exact ⟨by simp;omega,sureA_L0_p1 (by omega) hV (by omega) hc (inR_nat (by omega)) rfl⟩)
    (fun o _=>sureA_L0_p2 (by omega))
  rw [foldl_filter] at h
  exact sureA_p0 h
theorem sureE_p1{c:Cup}(h0:KL.Small c)(h1:(checkP c)=(0:Int))(h2:KL.Valid c){base:Nat}:FV Tryz.prog 39 [(.p (cupP c))] base (.tup [(.p (intsP (whoM (sureM c) c.sk.toNat))),(.p (intP 0))]) []:=by
  exact FV.frz (FMM.fin (k:=0) (g:=⟨[],[],[],[]⟩) rfl Tryz.func39 rfl (o:=[.c (.tup [(.p (cupP c)),(.p (intP (checkP c)))]) [],bF,.c (.agg [(.fn 159 [] [])]) [],.c (.p (intsP (whoM (sureM c) c.sk.toNat))) []]) (l:=[_,FC Tryz.prog 114 [] [] 2 (.agg [(.fn 159 [] [])]) [],_,_]) (by kernel_rfl) (gc (fk 6 (sureA_ok c h2) rfl) (gc (FV.fc sureQ_p0 (by kernel_rfl)) (gc (q_neF h1) (gc (fk 1 (asked_ok c h0) rfl) gn))))) (by kernel_rfl)
theorem sureE_ok(c:Cup)(hV:KL.Valid c){base:Nat}:FV Tryz.prog 39 [.p (cupP c)] base (.tup [.p (intsP (whoM (sureM c) c.sk.toNat)),.p (intP 0)]) []:=sureE_p1 hV.small ((KL.valid_iff c).2 hV) hV
end
section
open KL
noncomputable abbrev zK4c0:Code:=sub (cd Tryz.f199) [1,0,0,1,0,0,1,0,0]
noncomputable abbrev zK4c1:Code:=sub (cd Tryz.f217) [1,0,0,1,0,0,1,0,0]
noncomputable abbrev zK4c2:Code:=sub (cd Tryz.f197) [1,0,0,1,0,0,1,0,0]
noncomputable abbrev zK4c3:Code:=sub (cd Tryz.f199) [1,0,0]
noncomputable abbrev zK4c4:Code:=sub (cd Tryz.f217) [1,0,0]
noncomputable abbrev zK4c5:Code:=sub (cd Tryz.f197) [1,0,0]
theorem zK4q0:inR (1:Int):=by unfold inR;omega
def ltK(f:Nat)(x y:List Int):Bool:=decide (cmpI (x.getD f 0) (y.getD f 0)<0)
theorem srtLc_p0{a0 a1 a2 a3 b0 b1 b2 b3 r0:Int}(er0:r0=(cmpI a1 b1)){base:Nat}:FV Tryz.prog 109 [(.p (.agg [(intP a0),(intP a1),(intP a2),(intP a3)])),(.p (.agg [(intP b0),(intP b1),(intP b2),(intP b3)]))] base (.p (intP r0)) []:=by
  subst er0
  exact FV.fin Tryz.func109 rfl (o:=[.c (.p (intP (cmpI a1 b1))) []]) (l:=[_]) (by kernel_rfl) (gc (fk 2 (cmp_ok a1 b1) rfl) gn)
def srtLI_S0(l:List (List Int))(i:Nat)(Ln:Nat)(Lc:List PV):St:=⟨fr 53 [(0,(.own 0)),(1,(.p (intP 0))),(2,(.p (intP (l.length:Int)))),(3,(.fn 109 [] [])),(8,(.p (intP (i:Int))))],[some (.row 61 Ln Lc)]⟩
theorem srtLI_p0{l:List (List Int)}{i'0:Nat}{L'1:List (List Int)}(hl0:LoopOK Tryz.prog 1 zK4c3 (srtLI_S0 l 1 l.length (l.flatten.map intP)) (.exit 0) (srtLI_S0 l i'0 L'1.length (L'1.flatten.map intP))):FMM Tryz.prog 199 [(.own 0),(.p (intP 0)),(.p (intP (l.length:Int))),(.fn 109 [] [])] [some (.row 61 l.length (l.flatten.map intP))] (.tup []) [some (.row 61 L'1.length (L'1.flatten.map intP))]:=by
  exact FMM.fin (k:=1) (g:=⟨[],[],[],[]⟩) rfl Tryz.func199 rfl (o:=[.k 3 ⟨(rng [(4,4),(9,44)]),[],[],[]⟩ (.exit 0) (srtLI_S0 l i'0 L'1.length (L'1.flatten.map intP))]) (l:=[_,_]) (by kernel_rfl) (gc hl0.code (gc zK4q0 gn))
def srtLI_S1(l:List (List Int))(i:Nat)(j:Int)(Mn:Nat)(Mc:List PV):St:=⟨fr 53 [(0,(.own 0)),(1,(.p (intP 0))),(2,(.p (intP (l.length:Int)))),(3,(.fn 109 [] [])),(8,(.p (intP (i:Int)))),(9,(.p (intP j))),(12,(.p (intP (i:Int)))),(13,(.p (intP (l.length:Int)))),(14,(.p (blP (decide ((i:Int)<(l.length:Int)))))),(17,(.p (intP (i:Int))))],[some (.row 61 Mn Mc)]⟩
theorem srtLI_L0_p0{l:List (List Int)}{i:Nat}{L:List (List Int)}{j'100:Int}{M'101:List (List Int)}{i':Nat}{L':List (List Int)}(h0:(i:Int)<(l.length:Int))(hl1:LoopOK Tryz.prog 1 zK4c0 (srtLI_S1 l i (i:Int) L.length (L.flatten.map intP)) (.exit 2) (srtLI_S1 l i j'100 M'101.length (M'101.flatten.map intP)))(h2:inR (((i+1):Nat):Int))(ei':i'=(i+1))(eL'n:L'.length=M'101.length)(eL'c:L'.flatten.map intP=(M'101.flatten.map intP)):CodeOK Tryz.prog 1 zK4c3 (srtLI_S0 l i L.length (L.flatten.map intP)) .normal (srtLI_S0 l i' L'.length (L'.flatten.map intP)):=by
  subst ei'
  have raw:CodeOK Tryz.prog 1 zK4c3 (srtLI_S0 l i L.length (L.flatten.map intP)) .normal (srtLI_S0 l (i+1) M'101.length (M'101.flatten.map intP)):=CodeOK.fin (g:=⟨(rng [(4,4),(9,44)]),[],[],[]⟩) (o:=[bT,.k 5 ⟨(rng [(4,4),(10,2),(18,35)]),[],[],[]⟩ (.exit 2) (srtLI_S1 l i j'100 M'101.length (M'101.flatten.map intP))]) (l:=[_,_,_]) (by kernel_rfl) (gc h2 (gc hl1.code (gc (q_lt h0) gn)))
  exact raw.cast (by rw [eL'n,eL'c])
theorem srtLI_L0_p1{l:List (List Int)}{i:Nat}{L:List (List Int)}(h0:(l.length:Int)≤(i:Int)):CodeOK Tryz.prog 1 zK4c3 (srtLI_S0 l i L.length (L.flatten.map intP)) (.exit 0) (srtLI_S0 l i L.length (L.flatten.map intP)):=by
  exact CodeOK.fin (g:=⟨(rng [(4,4),(9,44)]),[],[],[]⟩) (o:=[bF]) (l:=[_]) (by kernel_rfl) (gc (q_ltF h0) gn)
theorem srtLI_L1_p0{l:List (List Int)}{i:Nat}{j:Int}{M:List (List Int)}{y200 y201 y202 y203 y204 y205 y206 y207 j':Int}{M':List (List Int)}(h0:(0:Int)<j)(h1:M[j.toNat]? = some [y200,y201,y202,y203])(h2:0≤j)(h3:uni 4 M)(h4:inR (j-(1:Int)))(h5:M[(j-(1:Int)).toNat]? = some [y204,y205,y206,y207])(h6:0≤(j-(1:Int)))(h7:(cmpI y201 y205)<(0:Int))(h8:[(intP y204),(intP y205),(intP y206),(intP y207)].length=4∧(j.toNat*4)+4≤(M.flatten.map intP).length)(h9:0≤(j-(1:Int))∧(j-(1:Int))<(M.length:Int))(h10:[(intP y200),(intP y201),(intP y202),(intP y203)].length=4∧((j-(1:Int)).toNat*4)+4≤((M.flatten.map intP).take (j.toNat*4)++[(intP y204),(intP y205),(intP y206),(intP y207)]++(M.flatten.map intP).drop ((j.toNat*4)+4)).length)(ej':j'=(j-(1:Int)))(eM'n:M'.length=M.length)(eM'c:M'.flatten.map intP=(((M.flatten.map intP).take (j.toNat*4)++[(intP y204),(intP y205),(intP y206),(intP y207)]++(M.flatten.map intP).drop ((j.toNat*4)+4)).take ((j-(1:Int)).toNat*4)++[(intP y200),(intP y201),(intP y202),(intP y203)]++((M.flatten.map intP).take (j.toNat*4)++[(intP y204),(intP y205),(intP y206),(intP y207)]++(M.flatten.map intP).drop ((j.toNat*4)+4)).drop (((j-(1:Int)).toNat*4)+4))):CodeOK Tryz.prog 1 zK4c0 (srtLI_S1 l i j M.length (M.flatten.map intP)) .normal (srtLI_S1 l i j' M'.length (M'.flatten.map intP)):=by
  subst ej'
  have raw:CodeOK Tryz.prog 1 zK4c0 (srtLI_S1 l i j M.length (M.flatten.map intP)) .normal (srtLI_S1 l i (j-(1:Int)) M.length (((M.flatten.map intP).take (j.toNat*4)++[(intP y204),(intP y205),(intP y206),(intP y207)]++(M.flatten.map intP).drop ((j.toNat*4)+4)).take ((j-(1:Int)).toNat*4)++[(intP y200),(intP y201),(intP y202),(intP y203)]++((M.flatten.map intP).take (j.toNat*4)++[(intP y204),(intP y205),(intP y206),(intP y207)]++(M.flatten.map intP).drop ((j.toNat*4)+4)).drop (((j-(1:Int)).toNat*4)+4))):=CodeOK.fin (g:=⟨(rng [(4,4),(10,2),(18,35)]),[],[],[]⟩) (o:=[bT,bT,bT,bT,bT,.x (.agg [(intP y200),(intP y201),(intP y202),(intP y203)]),bT,bT,bT,bT,bT,.x (.agg [(intP y204),(intP y205),(intP y206),(intP y207)]),bT,.c (.p (intP (cmpI y201 y205))) [],bT,bT,bT,.x (.agg [(intP y204),(intP y205),(intP y206),(intP y207)]),.x (.agg [(intP y200),(intP y201),(intP y202),(intP y203)])]) (l:=[_,_,_,_,_,_,_,_,_,_,_,_,_,_,_,_,FC Tryz.prog 109 [(.p (.agg [(intP y200),(intP y201),(intP y202),(intP y203)])),(.p (.agg [(intP y204),(intP y205),(intP y206),(intP y207)]))] [] 1 (.p (intP (cmpI y201 y205))) [],_,_,_,_,_,_,_,_,_,_,_,_,_,_,_,_,_,_]) (by kernel_rfl) (gc h4 (gc h10 (gc h9 (gc h8 (gc (ix_own (i:=j) h2 h1) (gc (fl_load (i:=j.toNat) h3 h1) (gc (fl_le (i:=j.toNat) h3 h1) (gc (ix_own (i:=j) h2 h1) (gc (fl_load (i:=(j-(1:Int)).toNat) h3 h5) (gc (fl_le (i:=(j-(1:Int)).toNat) h3 h5) (gc (ix_own (i:=(j-(1:Int))) h6 h5) (gc h4 (gc h4 (gc (q_lt h7) (gc (q_lt h0) (gc (q_lt h0) (gc (FV.fc (srtLc_p0 rfl) rfl) (gc (q_lt h0) (gc (fl_load (i:=(j-(1:Int)).toNat) h3 h5) (gc (fl_le (i:=(j-(1:Int)).toNat) h3 h5) (gc (q_lt h0) (gc (ix_own (i:=(j-(1:Int))) h6 h5) (gc (q_lt h0) (gc h4 (gc (q_lt h0) (gc (q_lt h0) (gc (q_lt h0) (gc (fl_load (i:=j.toNat) h3 h1) (gc (fl_le (i:=j.toNat) h3 h1) (gc (q_lt h0) (gc (ix_own (i:=j) h2 h1) (gc (q_lt h0) (gc (q_lt h0) (gc (q_lt h0) (gc (q_lt h0) gn)))))))))))))))))))))))))))))))))))
  exact raw.cast (by rw [eM'n,eM'c])
theorem srtLI_L1_p1{l:List (List Int)}{i:Nat}{j:Int}{M:List (List Int)}{y200 y201 y202 y203 y204 y205 y206 y207:Int}(h0:(0:Int)<j)(h1:M[j.toNat]? = some [y200,y201,y202,y203])(h2:0≤j)(h3:uni 4 M)(h4:inR (j-(1:Int)))(h5:M[(j-(1:Int)).toNat]? = some [y204,y205,y206,y207])(h6:0≤(j-(1:Int)))(h7:(0:Int)≤(cmpI y201 y205)):CodeOK Tryz.prog 1 zK4c0 (srtLI_S1 l i j M.length (M.flatten.map intP)) (.exit 2) (srtLI_S1 l i j M.length (M.flatten.map intP)):=by
  exact CodeOK.fin (g:=⟨(rng [(4,4),(10,2),(18,35)]),[],[],[]⟩) (o:=[bT,bT,bT,bT,bT,.x (.agg [(intP y200),(intP y201),(intP y202),(intP y203)]),bT,bT,bT,bT,bT,.x (.agg [(intP y204),(intP y205),(intP y206),(intP y207)]),bT,.c (.p (intP (cmpI y201 y205))) [],bT,bT,bF]) (l:=[_,_,_,FC Tryz.prog 109 [(.p (.agg [(intP y200),(intP y201),(intP y202),(intP y203)])),(.p (.agg [(intP y204),(intP y205),(intP y206),(intP y207)]))] [] 1 (.p (intP (cmpI y201 y205))) [],_,_,_,_,_,_,_,_,_,_,_,_,_,_,_,_,_,_]) (by kernel_rfl) (gc (q_ltF h7) (gc (q_lt h0) (gc (q_lt h0) (gc (FV.fc (srtLc_p0 rfl) rfl) (gc (q_lt h0) (gc (fl_load (i:=(j-(1:Int)).toNat) h3 h5) (gc (fl_le (i:=(j-(1:Int)).toNat) h3 h5) (gc (q_lt h0) (gc (ix_own (i:=(j-(1:Int))) h6 h5) (gc (q_lt h0) (gc h4 (gc (q_lt h0) (gc (q_lt h0) (gc (q_lt h0) (gc (fl_load (i:=j.toNat) h3 h1) (gc (fl_le (i:=j.toNat) h3 h1) (gc (q_lt h0) (gc (ix_own (i:=j) h2 h1) (gc (q_lt h0) (gc (q_lt h0) (gc (q_lt h0) (gc (q_lt h0) gn))))))))))))))))))))))
theorem srtLI_L1_p2{l:List (List Int)}{i:Nat}{j:Int}{M:List (List Int)}(h0:j≤(0:Int)):CodeOK Tryz.prog 1 zK4c0 (srtLI_S1 l i j M.length (M.flatten.map intP)) (.exit 2) (srtLI_S1 l i j M.length (M.flatten.map intP)):=by
  exact CodeOK.fin (g:=⟨(rng [(4,4),(10,2),(18,35)]),[],[],[]⟩) (o:=[bF,bF,bF,bF,bF,bF,bF,bF,bF,bF,bF,bF,bF]) (l:=[_,_,_,_,_,_,_,_,_,_,_,_,_]) (by kernel_rfl) (gc (q_ltF h0) (gc (q_ltF h0) (gc (q_ltF h0) (gc (q_ltF h0) (gc (q_ltF h0) (gc (q_ltF h0) (gc (q_ltF h0) (gc (q_ltF h0) (gc (q_ltF h0) (gc (q_ltF h0) (gc (q_ltF h0) (gc (q_ltF h0) (gc (q_ltF h0) gn)))))))))))))
theorem srtL_in(l:List (List Int))(i:Nat)(A R:List (List Int))(hA:A.length<1000)(hi:i=A.length)(x0 x1 x2 x3:Int)(hu:uni 4 (A++[x0,x1,x2,x3]::R)):∀ m,m≤A.length→(∀ t (h:t<A.length),m≤t→ltK 1 [x0,x1,x2,x3] A[t]=true) →
    LoopOK Tryz.prog 1 zK4c0 (srtLI_S1 l i (m:Int) (mv A [x0,x1,x2,x3] m R).length ((mv A [x0,x1,x2,x3] m R).flatten.map intP)) (.exit 2) (srtLI_S1 l i (insPos (ltK 1) [x0,x1,x2,x3] A:Int) (ins (ltK 1) A [x0,x1,x2,x3]++R).length ((ins (ltK 1) A [x0,x1,x2,x3]++R).flatten.map intP)):=by
  have huA:∀ y∈A,y.length=4:=fun y hy=>hu y (List.mem_append_left _ hy)
  have huM:∀ m,uni 4 (mv A [x0,x1,x2,x3] m R):=fun m y hy=>by
    unfold mv at hy
    rcases List.mem_append.1 hy with h | h
    · exact huA y (List.mem_of_mem_take h)
    · rcases List.mem_cons.1 h with rfl | h
      · rfl
      · rcases List.mem_append.1 h with h | h
        · exact huA y (List.mem_of_mem_drop h)
        · exact hu y (List.mem_append_right _ (List.mem_cons_of_mem _ h))
  intro m
  induction m with
  | zero =>
    intro _ hlt
    have e:=insPos_eq (ltK 1) [x0,x1,x2,x3] A 0 (Nat.zero_le _) hlt (.inl rfl)
    rw [← mv_ins,e]
    exact .exit (srtLI_L1_p2 (by simp)) (by simp)
  | succ m ih =>
    intro hm hlt
    have hy:=List.getElem?_eq_getElem (show m<A.length by omega)
    generalize A[m]=y at hy
    obtain ⟨y0,y1,y2,y3,rfl⟩:=len4 (huA y (List.mem_of_getElem? hy))
    have e1:((m+1:Nat):Int).toNat=m+1:=by omega
    have e2:(((m+1:Nat):Int)-1).toNat=m:=by omega
    have hl:=mv_length A [x0,x1,x2,x3] (m+1) R hm
    have g1:(mv A [x0,x1,x2,x3] (m+1) R)[m+1]? = some [x0,x1,x2,x3]:=by rw [mv_get A _ _ R hm];simp
    have g2:(mv A [x0,x1,x2,x3] (m+1) R)[m]? = some [y0,y1,y2,y3]:=by rw [mv_get A _ _ R hm,if_pos (by omega)];exact hy
    by_cases hc:cmpI x1 y1<0
    · have st:=fl_store (k:=4) (i:=m+1) (x:=[y0,y1,y2,y3]) (huM (m+1)) (by omega) rfl
      have hs1:uni 4 ((mv A [x0,x1,x2,x3] (m+1) R).set (m+1) [y0,y1,y2,y3]):=uni_set (huM _) rfl
      have st2:=fl_store (k:=4) (i:=m) (x:=[x0,x1,x2,x3]) hs1 (by rw [List.length_set];omega) rfl
      have gm:((mv A [x0,x1,x2,x3] (m+1) R).set (m+1) [y0,y1,y2,y3])[m]? = some [y0,y1,y2,y3]:=by rw [List.getElem?_set,if_neg (by omega)];exact g2
      have hsw:=mv_swap A [x0,x1,x2,x3] (m+1) R hm (by omega) [y0,y1,y2,y3] (by simpa using hy)
      rw [Nat.add_sub_cancel] at hsw
      simp only [List.map_cons,List.map_nil] at st st2
      refine .step (srtLI_L1_p0 (j:=((m+1:Nat):Int)) (j':=(m:Int)) (M':=mv A [x0,x1,x2,x3] m R) (by omega) (by rw [e1];exact g1) (by omega) (huM _) (by unfold inR;omega) (by rw [e2];exact g2) (by omega) hc ⟨rfl,by rw [e1];exact fl_le (huM _) g1⟩ ⟨by omega,by omega⟩ ⟨rfl,?_⟩ (by omega) (by rw [hl,mv_length A _ _ R (by omega)]) ?_) (ih (by omega) fun t ht h1 => ?_)
      · rw [e1,e2,st];exact fl_le hs1 gm
      · rw [e1,e2,st,st2,hsw]
      · by_cases h2:t=m
        · subst h2
          have h3:=hy
          rw [List.getElem?_eq_getElem ht,Option.some.injEq] at h3
          rw [h3]
          simpa [ltK] using hc
        · exact hlt t ht (by omega)
    · have e:=insPos_eq (ltK 1) [x0,x1,x2,x3] A (m+1) hm hlt (.inr ⟨[y0,y1,y2,y3],by simpa using hy,by simpa [ltK] using hc⟩)
      rw [← mv_ins,e]
      exact .exit (srtLI_L1_p1 (by omega) (by rw [e1];exact g1) (by omega) (huM _) (by unfold inR;omega) (by rw [e2];exact g2) (by omega) (by omega)) (by simp)
theorem srtL_ins(l:List (List Int))(hu:uni 4 l)(hn:l.length<1000):FMM Tryz.prog 199 [.own 0,.p (intP 0),.p (intP (l.length:Int)),.fn 109 [] []] [some (.row 61 l.length (l.flatten.map intP))] (.tup []) [some (.row 61 (isort (ltK 1) l).length ((isort (ltK 1) l).flatten.map intP))]:=by
  have hui:∀ i,uni 4 (isort (ltK 1) (l.take i)):=fun i y hy=>hu y (List.mem_of_mem_take ((isort_mem (ltK 1) _ y).1 hy))
  have key:∀ d i,i+d=l.length→1≤i→LoopOK Tryz.prog 1 zK4c3 (srtLI_S0 l i (isort (ltK 1) (l.take i)++l.drop i).length ((isort (ltK 1) (l.take i)++l.drop i).flatten.map intP)) (.exit 0) (srtLI_S0 l l.length (isort (ltK 1) l).length ((isort (ltK 1) l).flatten.map intP)):=by
    intro d
    induction d with
    | zero =>
      intro i hi _
      obtain rfl:i=l.length:=by omega
      rw [List.take_length,List.drop_length,List.append_nil]
      exact .exit (srtLI_L0_p1 (by omega)) (by simp)
    | succ d ih =>
      intro i hi h1
      have hlt:i<l.length:=by omega
      have hx:=hu l[i] (List.getElem_mem hlt)
      generalize hxx:l[i]=x at hx
      obtain ⟨x0,x1,x2,x3,rfl⟩:=len4 hx
      have hAl:(isort (ltK 1) (l.take i)).length=i:=by rw [isort_length,List.length_take];omega
      have hdr:l.drop i=[x0,x1,x2,x3]::l.drop (i+1):=by rw [List.drop_eq_getElem_cons hlt,hxx]
      have hin:=srtL_in l i (isort (ltK 1) (l.take i)) (l.drop (i+1)) (by omega) hAl.symm x0 x1 x2 x3 (by
        intro y hy
        rcases List.mem_append.1 hy with h | h
        · exact hui i y h
        · rcases List.mem_cons.1 h with rfl | h
          · rfl
          · exact hu y (List.mem_of_mem_drop h)) i (by omega) (fun t ht h2=>by omega)
      have hmv:mv (isort (ltK 1) (l.take i)) [x0,x1,x2,x3] i (l.drop (i+1))=isort (ltK 1) (l.take i)++l.drop i:=by
        have:=mv_end (isort (ltK 1) (l.take i)) [x0,x1,x2,x3] (l.drop (i+1))
        rw [hAl] at this;rw [this,hdr]
      have hsn:=isort_snoc (ltK 1) l i hlt
      rw [hxx] at hsn
      rw [hmv,← hsn] at hin
      exact .step (srtLI_L0_p0 (by omega) hin (by unfold inR;omega) rfl rfl rfl) (ih (i+1) (by omega) (by omega))
  rcases Nat.eq_zero_or_pos l.length with h0 | hp
  · have:l=[]:=List.eq_nil_of_length_eq_zero h0
    subst this
    exact srtLI_p0 (LoopOK.exit (srtLI_L0_p1 (l:=[]) (L:=[]) (i:=1) (by simp)) (by simp))
  · have:=key (l.length-1) 1 (by omega) (by omega)
    have e1:isort (ltK 1) (l.take 1)++l.drop 1=l:=by
      cases l with
      | nil=>simp at hp
      | cons x r=>simp [isort,ins,insPos]
    rw [e1] at this
    exact srtLI_p0 this
def srtLS_S0(l:List (List Int))  : St:=⟨fr 63 [(0,(.own 0)),(1,(.p (intP (l.length:Int)))),(2,(.fn 109 [] [])),(6,(.p (intP 20))),(7,(.p (intP 0))),(8,(.p (intP 20)))],[some (.row 61 l.length (l.flatten.map intP))]⟩
def srtLS_S1(l:List (List Int))  : St:=⟨fr 63 [(0,(.own 0)),(1,(.p (intP (l.length:Int)))),(2,(.fn 109 [] [])),(6,(.p (intP 20))),(7,(.p (intP 0))),(8,(.p (intP 20)))],[some (.row 61 ((isort (ltK 1) l).length) ((isort (ltK 1) l).flatten.map intP))]⟩
abbrev zK40(l:List (List Int)):=isort (ltK 1) l
theorem srtLS_p0{l:List (List Int)}(hl0:LoopOK Tryz.prog 1 (sub (cd Tryz.f158) [1,1,0,0,0]) (srtLS_S0 l ) (.exit 0) (srtLS_S0 l ))(h1:uni 4 l)(h2:l.length<1000)(hl3:LoopOK Tryz.prog 1 (sub (cd Tryz.f158) [1,1,1,1,0,0]) (srtLS_S1 l ) (.exit 2) (srtLS_S1 l )):FMM Tryz.prog 158 [(.own 0),(.p (intP (l.length:Int))),(.fn 109 [] [])] [some (.row 61 l.length (l.flatten.map intP))] (.tup []) [some (.row 61 ((isort (ltK 1) l).length) ((isort (ltK 1) l).flatten.map intP))]:=by
  exact FMM.fin (k:=1) (g:=⟨[],[],[],[]⟩) rfl Tryz.func158 rfl (o:=[.k 6 ⟨(rng [(3,3),(10,13),(27,1),(43,1),(60,1)]),[],[],[]⟩ (.exit 0) (srtLS_S0 l ),.c (.tup []) [(0,(.row 61 ((zK40 l).length) ((zK40 l).flatten.map intP)))],.k 1 ⟨(rng [(3,3),(10,53)]),[],[],[]⟩ (.exit 2) (srtLS_S1 l )]) (l:=[_,FC Tryz.prog 199 [(.own 0),(.p (intP 0)),(.p (intP (l.length:Int))),(.fn 109 [] [])] [(0,(.row 61 l.length (l.flatten.map intP)))] 1 (.tup []) [(0,(.row 61 ((zK40 l).length) ((zK40 l).flatten.map intP)))],_]) (by kernel_rfl) (gc hl3.code (gc (FMM.fc (ids:=[0]) (srtL_ins l h1 h2) (by kernel_rfl)) (gc hl0.code gn)))
theorem srtLS_L0_p0{l:List (List Int)}(h0:(l.length:Int)<(20:Int)):CodeOK Tryz.prog 1 (sub (cd Tryz.f158) [1,1,0,0,0]) (srtLS_S0 l ) (.exit 0) (srtLS_S0 l ):=by
  exact CodeOK.fin (g:=⟨(rng [(3,3),(10,13),(27,1),(43,1),(60,1)]),[],[],[]⟩) (o:=[bF]) (l:=[_]) (by kernel_rfl) (gc (q_leF h0) gn)
theorem srtLS_L1_p0{l:List (List Int)}(h0:(l.length:Int)≤(20:Int)):CodeOK Tryz.prog 1 (sub (cd Tryz.f158) [1,1,1,1,0,0]) (srtLS_S1 l ) (.exit 2) (srtLS_S1 l ):=by
  exact CodeOK.fin (g:=⟨(rng [(3,3),(10,53)]),[],[],[]⟩) (o:=[bF]) (l:=[_]) (by kernel_rfl) (gc (q_ltF h0) gn)
theorem srtL_stb(l:List (List Int))(hu:uni 4 l)(hn:l.length<20):FMM Tryz.prog 158 [.own 0,.p (intP (l.length:Int)),.fn 109 [] []] [some (.row 61 l.length (l.flatten.map intP))] (.tup []) [some (.row 61 (isort (ltK 1) l).length ((isort (ltK 1) l).flatten.map intP))] := 
  srtLS_p0 (LoopOK.exit (srtLS_L0_p0 (by omega)) (by simp)) hu (by omega) (LoopOK.exit (srtLS_L1_p0 (by omega)) (by simp))
theorem srtLT_p0{l:List (List Int)}(h0:uni 4 l)(h1:l.length<20):FMM Tryz.prog 108 [(.own 0),(.fn 109 [] [])] [some (.row 61 l.length (l.flatten.map intP))] (.tup []) [some (.row 61 ((isort (ltK 1) l).length) ((isort (ltK 1) l).flatten.map intP))]:=by
  exact FMM.fin (k:=1) (g:=⟨[],[],[],[]⟩) rfl Tryz.func108 rfl (o:=[.c (.tup []) [(0,(.row 61 ((zK40 l).length) ((zK40 l).flatten.map intP)))]]) (l:=[FC Tryz.prog 158 [(.own 0),(.p (intP (l.length:Int))),(.fn 109 [] [])] [(0,(.row 61 l.length (l.flatten.map intP)))] 1 (.tup []) [(0,(.row 61 ((zK40 l).length) ((zK40 l).flatten.map intP)))]]) (by kernel_rfl) (gc (FMM.fc (ids:=[0]) (srtL_stb l h0 h1) (by kernel_rfl)) gn)
theorem srtL_ok(l:List (List Int))(hu:uni 4 l)(hn:l.length<20):FMM Tryz.prog 108 [.own 0,.fn 109 [] []] [some (.row 61 l.length (l.flatten.map intP))] (.tup []) [some (.row 61 (isort (ltK 1) l).length ((isort (ltK 1) l).flatten.map intP))]:=srtLT_p0 hu hn
theorem srtRc_p0{a0 a1 b0 b1 r0:Int}(er0:r0=(cmpI a1 b1)){base:Nat}:FV Tryz.prog 167 [(.p (.agg [(intP a0),(intP a1)])),(.p (.agg [(intP b0),(intP b1)]))] base (.p (intP r0)) []:=by
  subst er0
  exact FV.fin Tryz.func167 rfl (o:=[.c (.p (intP (cmpI a1 b1))) []]) (l:=[_]) (by kernel_rfl) (gc (fk 2 (cmp_ok a1 b1) rfl) gn)
def srtRI_S0(l:List (List Int))(i:Nat)(Ln:Nat)(Lc:List PV):St:=⟨fr 53 [(0,(.own 0)),(1,(.p (intP 0))),(2,(.p (intP (l.length:Int)))),(3,(.fn 167 [] [])),(8,(.p (intP (i:Int))))],[some (.row 164 Ln Lc)]⟩
theorem srtRI_p0{l:List (List Int)}{i'0:Nat}{L'1:List (List Int)}(hl0:LoopOK Tryz.prog 1 zK4c4 (srtRI_S0 l 1 l.length (l.flatten.map intP)) (.exit 0) (srtRI_S0 l i'0 L'1.length (L'1.flatten.map intP))):FMM Tryz.prog 217 [(.own 0),(.p (intP 0)),(.p (intP (l.length:Int))),(.fn 167 [] [])] [some (.row 164 l.length (l.flatten.map intP))] (.tup []) [some (.row 164 L'1.length (L'1.flatten.map intP))]:=by
  exact FMM.fin (k:=1) (g:=⟨[],[],[],[]⟩) rfl Tryz.func217 rfl (o:=[.k 3 ⟨(rng [(4,4),(9,44)]),[],[],[]⟩ (.exit 0) (srtRI_S0 l i'0 L'1.length (L'1.flatten.map intP))]) (l:=[_,_]) (by kernel_rfl) (gc hl0.code (gc zK4q0 gn))
def srtRI_S1(l:List (List Int))(i:Nat)(j:Int)(Mn:Nat)(Mc:List PV):St:=⟨fr 53 [(0,(.own 0)),(1,(.p (intP 0))),(2,(.p (intP (l.length:Int)))),(3,(.fn 167 [] [])),(8,(.p (intP (i:Int)))),(9,(.p (intP j))),(12,(.p (intP (i:Int)))),(13,(.p (intP (l.length:Int)))),(14,(.p (blP (decide ((i:Int)<(l.length:Int)))))),(17,(.p (intP (i:Int))))],[some (.row 164 Mn Mc)]⟩
theorem srtRI_L0_p0{l:List (List Int)}{i:Nat}{L:List (List Int)}{j'100:Int}{M'101:List (List Int)}{i':Nat}{L':List (List Int)}(h0:(i:Int)<(l.length:Int))(hl1:LoopOK Tryz.prog 1 zK4c1 (srtRI_S1 l i (i:Int) L.length (L.flatten.map intP)) (.exit 2) (srtRI_S1 l i j'100 M'101.length (M'101.flatten.map intP)))(h2:inR (((i+1):Nat):Int))(ei':i'=(i+1))(eL'n:L'.length=M'101.length)(eL'c:L'.flatten.map intP=(M'101.flatten.map intP)):CodeOK Tryz.prog 1 zK4c4 (srtRI_S0 l i L.length (L.flatten.map intP)) .normal (srtRI_S0 l i' L'.length (L'.flatten.map intP)):=by
  subst ei'
  have raw:CodeOK Tryz.prog 1 zK4c4 (srtRI_S0 l i L.length (L.flatten.map intP)) .normal (srtRI_S0 l (i+1) M'101.length (M'101.flatten.map intP)):=CodeOK.fin (g:=⟨(rng [(4,4),(9,44)]),[],[],[]⟩) (o:=[bT,.k 5 ⟨(rng [(4,4),(10,2),(18,35)]),[],[],[]⟩ (.exit 2) (srtRI_S1 l i j'100 M'101.length (M'101.flatten.map intP))]) (l:=[_,_,_]) (by kernel_rfl) (gc h2 (gc hl1.code (gc (q_lt h0) gn)))
  exact raw.cast (by rw [eL'n,eL'c])
theorem srtRI_L0_p1{l:List (List Int)}{i:Nat}{L:List (List Int)}(h0:(l.length:Int)≤(i:Int)):CodeOK Tryz.prog 1 zK4c4 (srtRI_S0 l i L.length (L.flatten.map intP)) (.exit 0) (srtRI_S0 l i L.length (L.flatten.map intP)):=by
  exact CodeOK.fin (g:=⟨(rng [(4,4),(9,44)]),[],[],[]⟩) (o:=[bF]) (l:=[_]) (by kernel_rfl) (gc (q_ltF h0) gn)
theorem srtRI_L1_p0{l:List (List Int)}{i:Nat}{j:Int}{M:List (List Int)}{y200 y201 y202 y203 j':Int}{M':List (List Int)}(h0:(0:Int)<j)(h1:M[j.toNat]? = some [y200,y201])(h2:0≤j)(h3:uni 2 M)(h4:inR (j-(1:Int)))(h5:M[(j-(1:Int)).toNat]? = some [y202,y203])(h6:0≤(j-(1:Int)))(h7:(cmpI y201 y203)<(0:Int))(h8:[(intP y202),(intP y203)].length=2∧(j.toNat*2)+2≤(M.flatten.map intP).length)(h9:0≤(j-(1:Int))∧(j-(1:Int))<(M.length:Int))(h10:[(intP y200),(intP y201)].length=2∧((j-(1:Int)).toNat*2)+2≤((M.flatten.map intP).take (j.toNat*2)++[(intP y202),(intP y203)]++(M.flatten.map intP).drop ((j.toNat*2)+2)).length)(ej':j'=(j-(1:Int)))(eM'n:M'.length=M.length)(eM'c:M'.flatten.map intP=(((M.flatten.map intP).take (j.toNat*2)++[(intP y202),(intP y203)]++(M.flatten.map intP).drop ((j.toNat*2)+2)).take ((j-(1:Int)).toNat*2)++[(intP y200),(intP y201)]++((M.flatten.map intP).take (j.toNat*2)++[(intP y202),(intP y203)]++(M.flatten.map intP).drop ((j.toNat*2)+2)).drop (((j-(1:Int)).toNat*2)+2))):CodeOK Tryz.prog 1 zK4c1 (srtRI_S1 l i j M.length (M.flatten.map intP)) .normal (srtRI_S1 l i j' M'.length (M'.flatten.map intP)):=by
  subst ej'
  have raw:CodeOK Tryz.prog 1 zK4c1 (srtRI_S1 l i j M.length (M.flatten.map intP)) .normal (srtRI_S1 l i (j-(1:Int)) M.length (((M.flatten.map intP).take (j.toNat*2)++[(intP y202),(intP y203)]++(M.flatten.map intP).drop ((j.toNat*2)+2)).take ((j-(1:Int)).toNat*2)++[(intP y200),(intP y201)]++((M.flatten.map intP).take (j.toNat*2)++[(intP y202),(intP y203)]++(M.flatten.map intP).drop ((j.toNat*2)+2)).drop (((j-(1:Int)).toNat*2)+2))):=CodeOK.fin (g:=⟨(rng [(4,4),(10,2),(18,35)]),[],[],[]⟩) (o:=[bT,bT,bT,bT,bT,.x (.agg [(intP y200),(intP y201)]),bT,bT,bT,bT,bT,.x (.agg [(intP y202),(intP y203)]),bT,.c (.p (intP (cmpI y201 y203))) [],bT,bT,bT,.x (.agg [(intP y202),(intP y203)]),.x (.agg [(intP y200),(intP y201)])]) (l:=[_,_,_,_,_,_,_,_,_,_,_,_,_,_,_,_,FC Tryz.prog 167 [(.p (.agg [(intP y200),(intP y201)])),(.p (.agg [(intP y202),(intP y203)]))] [] 1 (.p (intP (cmpI y201 y203))) [],_,_,_,_,_,_,_,_,_,_,_,_,_,_,_,_,_,_]) (by kernel_rfl) (gc h4 (gc h10 (gc h9 (gc h8 (gc (ix_own (i:=j) h2 h1) (gc (fl_load (i:=j.toNat) h3 h1) (gc (fl_le (i:=j.toNat) h3 h1) (gc (ix_own (i:=j) h2 h1) (gc (fl_load (i:=(j-(1:Int)).toNat) h3 h5) (gc (fl_le (i:=(j-(1:Int)).toNat) h3 h5) (gc (ix_own (i:=(j-(1:Int))) h6 h5) (gc h4 (gc h4 (gc (q_lt h7) (gc (q_lt h0) (gc (q_lt h0) (gc (FV.fc (srtRc_p0 rfl) rfl) (gc (q_lt h0) (gc (fl_load (i:=(j-(1:Int)).toNat) h3 h5) (gc (fl_le (i:=(j-(1:Int)).toNat) h3 h5) (gc (q_lt h0) (gc (ix_own (i:=(j-(1:Int))) h6 h5) (gc (q_lt h0) (gc h4 (gc (q_lt h0) (gc (q_lt h0) (gc (q_lt h0) (gc (fl_load (i:=j.toNat) h3 h1) (gc (fl_le (i:=j.toNat) h3 h1) (gc (q_lt h0) (gc (ix_own (i:=j) h2 h1) (gc (q_lt h0) (gc (q_lt h0) (gc (q_lt h0) (gc (q_lt h0) gn)))))))))))))))))))))))))))))))))))
  exact raw.cast (by rw [eM'n,eM'c])
theorem srtRI_L1_p1{l:List (List Int)}{i:Nat}{j:Int}{M:List (List Int)}{y200 y201 y202 y203:Int}(h0:(0:Int)<j)(h1:M[j.toNat]? = some [y200,y201])(h2:0≤j)(h3:uni 2 M)(h4:inR (j-(1:Int)))(h5:M[(j-(1:Int)).toNat]? = some [y202,y203])(h6:0≤(j-(1:Int)))(h7:(0:Int)≤(cmpI y201 y203)):CodeOK Tryz.prog 1 zK4c1 (srtRI_S1 l i j M.length (M.flatten.map intP)) (.exit 2) (srtRI_S1 l i j M.length (M.flatten.map intP)):=by
  exact CodeOK.fin (g:=⟨(rng [(4,4),(10,2),(18,35)]),[],[],[]⟩) (o:=[bT,bT,bT,bT,bT,.x (.agg [(intP y200),(intP y201)]),bT,bT,bT,bT,bT,.x (.agg [(intP y202),(intP y203)]),bT,.c (.p (intP (cmpI y201 y203))) [],bT,bT,bF]) (l:=[_,_,_,FC Tryz.prog 167 [(.p (.agg [(intP y200),(intP y201)])),(.p (.agg [(intP y202),(intP y203)]))] [] 1 (.p (intP (cmpI y201 y203))) [],_,_,_,_,_,_,_,_,_,_,_,_,_,_,_,_,_,_]) (by kernel_rfl) (gc (q_ltF h7) (gc (q_lt h0) (gc (q_lt h0) (gc (FV.fc (srtRc_p0 rfl) rfl) (gc (q_lt h0) (gc (fl_load (i:=(j-(1:Int)).toNat) h3 h5) (gc (fl_le (i:=(j-(1:Int)).toNat) h3 h5) (gc (q_lt h0) (gc (ix_own (i:=(j-(1:Int))) h6 h5) (gc (q_lt h0) (gc h4 (gc (q_lt h0) (gc (q_lt h0) (gc (q_lt h0) (gc (fl_load (i:=j.toNat) h3 h1) (gc (fl_le (i:=j.toNat) h3 h1) (gc (q_lt h0) (gc (ix_own (i:=j) h2 h1) (gc (q_lt h0) (gc (q_lt h0) (gc (q_lt h0) (gc (q_lt h0) gn))))))))))))))))))))))
theorem srtRI_L1_p2{l:List (List Int)}{i:Nat}{j:Int}{M:List (List Int)}(h0:j≤(0:Int)):CodeOK Tryz.prog 1 zK4c1 (srtRI_S1 l i j M.length (M.flatten.map intP)) (.exit 2) (srtRI_S1 l i j M.length (M.flatten.map intP)):=by
  exact CodeOK.fin (g:=⟨(rng [(4,4),(10,2),(18,35)]),[],[],[]⟩) (o:=[bF,bF,bF,bF,bF,bF,bF,bF,bF,bF,bF,bF,bF]) (l:=[_,_,_,_,_,_,_,_,_,_,_,_,_]) (by kernel_rfl) (gc (q_ltF h0) (gc (q_ltF h0) (gc (q_ltF h0) (gc (q_ltF h0) (gc (q_ltF h0) (gc (q_ltF h0) (gc (q_ltF h0) (gc (q_ltF h0) (gc (q_ltF h0) (gc (q_ltF h0) (gc (q_ltF h0) (gc (q_ltF h0) (gc (q_ltF h0) gn)))))))))))))
theorem srtR_in(l:List (List Int))(i:Nat)(A R:List (List Int))(hA:A.length<1000)(hi:i=A.length)(x0 x1:Int)(hu:uni 2 (A++[x0,x1]::R)):∀ m,m≤A.length→(∀ t (h:t<A.length),m≤t→ltK 1 [x0,x1] A[t]=true) →
    LoopOK Tryz.prog 1 zK4c1 (srtRI_S1 l i (m:Int) (mv A [x0,x1] m R).length ((mv A [x0,x1] m R).flatten.map intP)) (.exit 2) (srtRI_S1 l i (insPos (ltK 1) [x0,x1] A:Int) (ins (ltK 1) A [x0,x1]++R).length ((ins (ltK 1) A [x0,x1]++R).flatten.map intP)):=by
  have huA:∀ y∈A,y.length=2:=fun y hy=>hu y (List.mem_append_left _ hy)
  have huM:∀ m,uni 2 (mv A [x0,x1] m R):=fun m y hy=>by
    unfold mv at hy
    rcases List.mem_append.1 hy with h | h
    · exact huA y (List.mem_of_mem_take h)
    · rcases List.mem_cons.1 h with rfl | h
      · rfl
      · rcases List.mem_append.1 h with h | h
        · exact huA y (List.mem_of_mem_drop h)
        · exact hu y (List.mem_append_right _ (List.mem_cons_of_mem _ h))
  intro m
  induction m with
  | zero =>
    intro _ hlt
    have e:=insPos_eq (ltK 1) [x0,x1] A 0 (Nat.zero_le _) hlt (.inl rfl)
    rw [← mv_ins,e]
    exact .exit (srtRI_L1_p2 (by simp)) (by simp)
  | succ m ih =>
    intro hm hlt
    have hy:=List.getElem?_eq_getElem (show m<A.length by omega)
    generalize A[m]=y at hy
    obtain ⟨y0,y1,rfl⟩:=len2 (huA y (List.mem_of_getElem? hy))
    have e1:((m+1:Nat):Int).toNat=m+1:=by omega
    have e2:(((m+1:Nat):Int)-1).toNat=m:=by omega
    have hl:=mv_length A [x0,x1] (m+1) R hm
    have g1:(mv A [x0,x1] (m+1) R)[m+1]? = some [x0,x1]:=by rw [mv_get A _ _ R hm];simp
    have g2:(mv A [x0,x1] (m+1) R)[m]? = some [y0,y1]:=by rw [mv_get A _ _ R hm,if_pos (by omega)];exact hy
    by_cases hc:cmpI x1 y1<0
    · have st:=fl_store (k:=2) (i:=m+1) (x:=[y0,y1]) (huM (m+1)) (by omega) rfl
      have hs1:uni 2 ((mv A [x0,x1] (m+1) R).set (m+1) [y0,y1]):=uni_set (huM _) rfl
      have st2:=fl_store (k:=2) (i:=m) (x:=[x0,x1]) hs1 (by rw [List.length_set];omega) rfl
      have gm:((mv A [x0,x1] (m+1) R).set (m+1) [y0,y1])[m]? = some [y0,y1]:=by rw [List.getElem?_set,if_neg (by omega)];exact g2
      have hsw:=mv_swap A [x0,x1] (m+1) R hm (by omega) [y0,y1] (by simpa using hy)
      rw [Nat.add_sub_cancel] at hsw
      simp only [List.map_cons,List.map_nil] at st st2
      refine .step (srtRI_L1_p0 (j:=((m+1:Nat):Int)) (j':=(m:Int)) (M':=mv A [x0,x1] m R) (by omega) (by rw [e1];exact g1) (by omega) (huM _) (by unfold inR;omega) (by rw [e2];exact g2) (by omega) hc ⟨rfl,by rw [e1];exact fl_le (huM _) g1⟩ ⟨by omega,by omega⟩ ⟨rfl,?_⟩ (by omega) (by rw [hl,mv_length A _ _ R (by omega)]) ?_) (ih (by omega) fun t ht h1 => ?_)
      · rw [e1,e2,st];exact fl_le hs1 gm
      · rw [e1,e2,st,st2,hsw]
      · by_cases h2:t=m
        · subst h2
          have h3:=hy
          rw [List.getElem?_eq_getElem ht,Option.some.injEq] at h3
          rw [h3]
          simpa [ltK] using hc
        · exact hlt t ht (by omega)
    · have e:=insPos_eq (ltK 1) [x0,x1] A (m+1) hm hlt (.inr ⟨[y0,y1],by simpa using hy,by simpa [ltK] using hc⟩)
      rw [← mv_ins,e]
      exact .exit (srtRI_L1_p1 (by omega) (by rw [e1];exact g1) (by omega) (huM _) (by unfold inR;omega) (by rw [e2];exact g2) (by omega) (by omega)) (by simp)
theorem srtR_ins(l:List (List Int))(hu:uni 2 l)(hn:l.length<1000):FMM Tryz.prog 217 [.own 0,.p (intP 0),.p (intP (l.length:Int)),.fn 167 [] []] [some (.row 164 l.length (l.flatten.map intP))] (.tup []) [some (.row 164 (isort (ltK 1) l).length ((isort (ltK 1) l).flatten.map intP))]:=by
  have hui:∀ i,uni 2 (isort (ltK 1) (l.take i)):=fun i y hy=>hu y (List.mem_of_mem_take ((isort_mem (ltK 1) _ y).1 hy))
  have key:∀ d i,i+d=l.length→1≤i→LoopOK Tryz.prog 1 zK4c4 (srtRI_S0 l i (isort (ltK 1) (l.take i)++l.drop i).length ((isort (ltK 1) (l.take i)++l.drop i).flatten.map intP)) (.exit 0) (srtRI_S0 l l.length (isort (ltK 1) l).length ((isort (ltK 1) l).flatten.map intP)):=by
    intro d
    induction d with
    | zero =>
      intro i hi _
      obtain rfl:i=l.length:=by omega
      rw [List.take_length,List.drop_length,List.append_nil]
      exact .exit (srtRI_L0_p1 (by omega)) (by simp)
    | succ d ih =>
      intro i hi h1
      have hlt:i<l.length:=by omega
      have hx:=hu l[i] (List.getElem_mem hlt)
      generalize hxx:l[i]=x at hx
      obtain ⟨x0,x1,rfl⟩:=len2 hx
      have hAl:(isort (ltK 1) (l.take i)).length=i:=by rw [isort_length,List.length_take];omega
      have hdr:l.drop i=[x0,x1]::l.drop (i+1):=by rw [List.drop_eq_getElem_cons hlt,hxx]
      have hin:=srtR_in l i (isort (ltK 1) (l.take i)) (l.drop (i+1)) (by omega) hAl.symm x0 x1 (by
        intro y hy
        rcases List.mem_append.1 hy with h | h
        · exact hui i y h
        · rcases List.mem_cons.1 h with rfl | h
          · rfl
          · exact hu y (List.mem_of_mem_drop h)) i (by omega) (fun t ht h2=>by omega)
      have hmv:mv (isort (ltK 1) (l.take i)) [x0,x1] i (l.drop (i+1))=isort (ltK 1) (l.take i)++l.drop i:=by
        have:=mv_end (isort (ltK 1) (l.take i)) [x0,x1] (l.drop (i+1))
        rw [hAl] at this;rw [this,hdr]
      have hsn:=isort_snoc (ltK 1) l i hlt
      rw [hxx] at hsn
      rw [hmv,← hsn] at hin
      exact .step (srtRI_L0_p0 (by omega) hin (by unfold inR;omega) rfl rfl rfl) (ih (i+1) (by omega) (by omega))
  rcases Nat.eq_zero_or_pos l.length with h0 | hp
  · have:l=[]:=List.eq_nil_of_length_eq_zero h0
    subst this
    exact srtRI_p0 (LoopOK.exit (srtRI_L0_p1 (l:=[]) (L:=[]) (i:=1) (by simp)) (by simp))
  · have:=key (l.length-1) 1 (by omega) (by omega)
    have e1:isort (ltK 1) (l.take 1)++l.drop 1=l:=by
      cases l with
      | nil=>simp at hp
      | cons x r=>simp [isort,ins,insPos]
    rw [e1] at this
    exact srtRI_p0 this
def srtRS_S0(l:List (List Int))  : St:=⟨fr 63 [(0,(.own 0)),(1,(.p (intP (l.length:Int)))),(2,(.fn 167 [] [])),(6,(.p (intP 20))),(7,(.p (intP 0))),(8,(.p (intP 20)))],[some (.row 164 l.length (l.flatten.map intP))]⟩
def srtRS_S1(l:List (List Int))  : St:=⟨fr 63 [(0,(.own 0)),(1,(.p (intP (l.length:Int)))),(2,(.fn 167 [] [])),(6,(.p (intP 20))),(7,(.p (intP 0))),(8,(.p (intP 20)))],[some (.row 164 ((isort (ltK 1) l).length) ((isort (ltK 1) l).flatten.map intP))]⟩
theorem srtRS_p0{l:List (List Int)}(hl0:LoopOK Tryz.prog 1 (sub (cd Tryz.f202) [1,1,0,0,0]) (srtRS_S0 l ) (.exit 0) (srtRS_S0 l ))(h1:uni 2 l)(h2:l.length<1000)(hl3:LoopOK Tryz.prog 1 (sub (cd Tryz.f202) [1,1,1,1,0,0]) (srtRS_S1 l ) (.exit 2) (srtRS_S1 l )):FMM Tryz.prog 202 [(.own 0),(.p (intP (l.length:Int))),(.fn 167 [] [])] [some (.row 164 l.length (l.flatten.map intP))] (.tup []) [some (.row 164 ((isort (ltK 1) l).length) ((isort (ltK 1) l).flatten.map intP))]:=by
  exact FMM.fin (k:=1) (g:=⟨[],[],[],[]⟩) rfl Tryz.func202 rfl (o:=[.k 6 ⟨(rng [(3,3),(10,13),(27,1),(43,1),(60,1)]),[],[],[]⟩ (.exit 0) (srtRS_S0 l ),.c (.tup []) [(0,(.row 164 ((zK40 l).length) ((zK40 l).flatten.map intP)))],.k 1 ⟨(rng [(3,3),(10,53)]),[],[],[]⟩ (.exit 2) (srtRS_S1 l )]) (l:=[_,FC Tryz.prog 217 [(.own 0),(.p (intP 0)),(.p (intP (l.length:Int))),(.fn 167 [] [])] [(0,(.row 164 l.length (l.flatten.map intP)))] 1 (.tup []) [(0,(.row 164 ((zK40 l).length) ((zK40 l).flatten.map intP)))],_]) (by kernel_rfl) (gc hl3.code (gc (FMM.fc (ids:=[0]) (srtR_ins l h1 h2) (by kernel_rfl)) (gc hl0.code gn)))
theorem srtRS_L0_p0{l:List (List Int)}(h0:(l.length:Int)<(20:Int)):CodeOK Tryz.prog 1 (sub (cd Tryz.f202) [1,1,0,0,0]) (srtRS_S0 l ) (.exit 0) (srtRS_S0 l ):=by
  exact CodeOK.fin (g:=⟨(rng [(3,3),(10,13),(27,1),(43,1),(60,1)]),[],[],[]⟩) (o:=[bF]) (l:=[_]) (by kernel_rfl) (gc (q_leF h0) gn)
theorem srtRS_L1_p0{l:List (List Int)}(h0:(l.length:Int)≤(20:Int)):CodeOK Tryz.prog 1 (sub (cd Tryz.f202) [1,1,1,1,0,0]) (srtRS_S1 l ) (.exit 2) (srtRS_S1 l ):=by
  exact CodeOK.fin (g:=⟨(rng [(3,3),(10,53)]),[],[],[]⟩) (o:=[bF]) (l:=[_]) (by kernel_rfl) (gc (q_ltF h0) gn)
theorem srtR_stb(l:List (List Int))(hu:uni 2 l)(hn:l.length<20):FMM Tryz.prog 202 [.own 0,.p (intP (l.length:Int)),.fn 167 [] []] [some (.row 164 l.length (l.flatten.map intP))] (.tup []) [some (.row 164 (isort (ltK 1) l).length ((isort (ltK 1) l).flatten.map intP))] := 
  srtRS_p0 (LoopOK.exit (srtRS_L0_p0 (by omega)) (by simp)) hu (by omega) (LoopOK.exit (srtRS_L1_p0 (by omega)) (by simp))
theorem srtRT_p0{l:List (List Int)}(h0:uni 2 l)(h1:l.length<20):FMM Tryz.prog 166 [(.own 0),(.fn 167 [] [])] [some (.row 164 l.length (l.flatten.map intP))] (.tup []) [some (.row 164 ((isort (ltK 1) l).length) ((isort (ltK 1) l).flatten.map intP))]:=by
  exact FMM.fin (k:=1) (g:=⟨[],[],[],[]⟩) rfl Tryz.func166 rfl (o:=[.c (.tup []) [(0,(.row 164 ((zK40 l).length) ((zK40 l).flatten.map intP)))]]) (l:=[FC Tryz.prog 202 [(.own 0),(.p (intP (l.length:Int))),(.fn 167 [] [])] [(0,(.row 164 l.length (l.flatten.map intP)))] 1 (.tup []) [(0,(.row 164 ((zK40 l).length) ((zK40 l).flatten.map intP)))]]) (by kernel_rfl) (gc (FMM.fc (ids:=[0]) (srtR_stb l h0 h1) (by kernel_rfl)) gn)
theorem srtR_ok(l:List (List Int))(hu:uni 2 l)(hn:l.length<20):FMM Tryz.prog 166 [.own 0,.fn 167 [] []] [some (.row 164 l.length (l.flatten.map intP))] (.tup []) [some (.row 164 (isort (ltK 1) l).length ((isort (ltK 1) l).flatten.map intP))]:=srtRT_p0 hu hn
theorem srtNc_p0{a0 a1 a2 a3 b0 b1 b2 b3 r0:Int}(er0:r0=(cmpI a1 b1)){base:Nat}:FV Tryz.prog 103 [(.p (.agg [(intP a0),(intP a1),(intP a2),(intP a3)])),(.p (.agg [(intP b0),(intP b1),(intP b2),(intP b3)]))] base (.p (intP r0)) []:=by
  subst er0
  exact FV.fin Tryz.func103 rfl (o:=[.c (.p (intP (cmpI a1 b1))) []]) (l:=[_]) (by kernel_rfl) (gc (fk 2 (cmp_ok a1 b1) rfl) gn)
def srtNI_S0(l:List (List Int))(i:Nat)(Ln:Nat)(Lc:List PV):St:=⟨fr 53 [(0,(.own 0)),(1,(.p (intP 0))),(2,(.p (intP (l.length:Int)))),(3,(.fn 103 [] [])),(8,(.p (intP (i:Int))))],[some (.row 40 Ln Lc)]⟩
theorem srtNI_p0{l:List (List Int)}{i'0:Nat}{L'1:List (List Int)}(hl0:LoopOK Tryz.prog 1 zK4c5 (srtNI_S0 l 1 l.length (l.flatten.map intP)) (.exit 0) (srtNI_S0 l i'0 L'1.length (L'1.flatten.map intP))):FMM Tryz.prog 197 [(.own 0),(.p (intP 0)),(.p (intP (l.length:Int))),(.fn 103 [] [])] [some (.row 40 l.length (l.flatten.map intP))] (.tup []) [some (.row 40 L'1.length (L'1.flatten.map intP))]:=by
  exact FMM.fin (k:=1) (g:=⟨[],[],[],[]⟩) rfl Tryz.func197 rfl (o:=[.k 3 ⟨(rng [(4,4),(9,44)]),[],[],[]⟩ (.exit 0) (srtNI_S0 l i'0 L'1.length (L'1.flatten.map intP))]) (l:=[_,_]) (by kernel_rfl) (gc hl0.code (gc zK4q0 gn))
def srtNI_S1(l:List (List Int))(i:Nat)(j:Int)(Mn:Nat)(Mc:List PV):St:=⟨fr 53 [(0,(.own 0)),(1,(.p (intP 0))),(2,(.p (intP (l.length:Int)))),(3,(.fn 103 [] [])),(8,(.p (intP (i:Int)))),(9,(.p (intP j))),(12,(.p (intP (i:Int)))),(13,(.p (intP (l.length:Int)))),(14,(.p (blP (decide ((i:Int)<(l.length:Int)))))),(17,(.p (intP (i:Int))))],[some (.row 40 Mn Mc)]⟩
theorem srtNI_L0_p0{l:List (List Int)}{i:Nat}{L:List (List Int)}{j'100:Int}{M'101:List (List Int)}{i':Nat}{L':List (List Int)}(h0:(i:Int)<(l.length:Int))(hl1:LoopOK Tryz.prog 1 zK4c2 (srtNI_S1 l i (i:Int) L.length (L.flatten.map intP)) (.exit 2) (srtNI_S1 l i j'100 M'101.length (M'101.flatten.map intP)))(h2:inR (((i+1):Nat):Int))(ei':i'=(i+1))(eL'n:L'.length=M'101.length)(eL'c:L'.flatten.map intP=(M'101.flatten.map intP)):CodeOK Tryz.prog 1 zK4c5 (srtNI_S0 l i L.length (L.flatten.map intP)) .normal (srtNI_S0 l i' L'.length (L'.flatten.map intP)):=by
  subst ei'
  have raw:CodeOK Tryz.prog 1 zK4c5 (srtNI_S0 l i L.length (L.flatten.map intP)) .normal (srtNI_S0 l (i+1) M'101.length (M'101.flatten.map intP)):=CodeOK.fin (g:=⟨(rng [(4,4),(9,44)]),[],[],[]⟩) (o:=[bT,.k 5 ⟨(rng [(4,4),(10,2),(18,35)]),[],[],[]⟩ (.exit 2) (srtNI_S1 l i j'100 M'101.length (M'101.flatten.map intP))]) (l:=[_,_,_]) (by kernel_rfl) (gc h2 (gc hl1.code (gc (q_lt h0) gn)))
  exact raw.cast (by rw [eL'n,eL'c])
theorem srtNI_L0_p1{l:List (List Int)}{i:Nat}{L:List (List Int)}(h0:(l.length:Int)≤(i:Int)):CodeOK Tryz.prog 1 zK4c5 (srtNI_S0 l i L.length (L.flatten.map intP)) (.exit 0) (srtNI_S0 l i L.length (L.flatten.map intP)):=by
  exact CodeOK.fin (g:=⟨(rng [(4,4),(9,44)]),[],[],[]⟩) (o:=[bF]) (l:=[_]) (by kernel_rfl) (gc (q_ltF h0) gn)
theorem srtNI_L1_p0{l:List (List Int)}{i:Nat}{j:Int}{M:List (List Int)}{y200 y201 y202 y203 y204 y205 y206 y207 j':Int}{M':List (List Int)}(h0:(0:Int)<j)(h1:M[j.toNat]? = some [y200,y201,y202,y203])(h2:0≤j)(h3:uni 4 M)(h4:inR (j-(1:Int)))(h5:M[(j-(1:Int)).toNat]? = some [y204,y205,y206,y207])(h6:0≤(j-(1:Int)))(h7:(cmpI y201 y205)<(0:Int))(h8:[(intP y204),(intP y205),(intP y206),(intP y207)].length=4∧(j.toNat*4)+4≤(M.flatten.map intP).length)(h9:0≤(j-(1:Int))∧(j-(1:Int))<(M.length:Int))(h10:[(intP y200),(intP y201),(intP y202),(intP y203)].length=4∧((j-(1:Int)).toNat*4)+4≤((M.flatten.map intP).take (j.toNat*4)++[(intP y204),(intP y205),(intP y206),(intP y207)]++(M.flatten.map intP).drop ((j.toNat*4)+4)).length)(ej':j'=(j-(1:Int)))(eM'n:M'.length=M.length)(eM'c:M'.flatten.map intP=(((M.flatten.map intP).take (j.toNat*4)++[(intP y204),(intP y205),(intP y206),(intP y207)]++(M.flatten.map intP).drop ((j.toNat*4)+4)).take ((j-(1:Int)).toNat*4)++[(intP y200),(intP y201),(intP y202),(intP y203)]++((M.flatten.map intP).take (j.toNat*4)++[(intP y204),(intP y205),(intP y206),(intP y207)]++(M.flatten.map intP).drop ((j.toNat*4)+4)).drop (((j-(1:Int)).toNat*4)+4))):CodeOK Tryz.prog 1 zK4c2 (srtNI_S1 l i j M.length (M.flatten.map intP)) .normal (srtNI_S1 l i j' M'.length (M'.flatten.map intP)):=by
  subst ej'
  have raw:CodeOK Tryz.prog 1 zK4c2 (srtNI_S1 l i j M.length (M.flatten.map intP)) .normal (srtNI_S1 l i (j-(1:Int)) M.length (((M.flatten.map intP).take (j.toNat*4)++[(intP y204),(intP y205),(intP y206),(intP y207)]++(M.flatten.map intP).drop ((j.toNat*4)+4)).take ((j-(1:Int)).toNat*4)++[(intP y200),(intP y201),(intP y202),(intP y203)]++((M.flatten.map intP).take (j.toNat*4)++[(intP y204),(intP y205),(intP y206),(intP y207)]++(M.flatten.map intP).drop ((j.toNat*4)+4)).drop (((j-(1:Int)).toNat*4)+4))):=CodeOK.fin (g:=⟨(rng [(4,4),(10,2),(18,35)]),[],[],[]⟩) (o:=[bT,bT,bT,bT,bT,.x (.agg [(intP y200),(intP y201),(intP y202),(intP y203)]),bT,bT,bT,bT,bT,.x (.agg [(intP y204),(intP y205),(intP y206),(intP y207)]),bT,.c (.p (intP (cmpI y201 y205))) [],bT,bT,bT,.x (.agg [(intP y204),(intP y205),(intP y206),(intP y207)]),.x (.agg [(intP y200),(intP y201),(intP y202),(intP y203)])]) (l:=[_,_,_,_,_,_,_,_,_,_,_,_,_,_,_,_,FC Tryz.prog 103 [(.p (.agg [(intP y200),(intP y201),(intP y202),(intP y203)])),(.p (.agg [(intP y204),(intP y205),(intP y206),(intP y207)]))] [] 1 (.p (intP (cmpI y201 y205))) [],_,_,_,_,_,_,_,_,_,_,_,_,_,_,_,_,_,_]) (by kernel_rfl) (gc h4 (gc h10 (gc h9 (gc h8 (gc (ix_own (i:=j) h2 h1) (gc (fl_load (i:=j.toNat) h3 h1) (gc (fl_le (i:=j.toNat) h3 h1) (gc (ix_own (i:=j) h2 h1) (gc (fl_load (i:=(j-(1:Int)).toNat) h3 h5) (gc (fl_le (i:=(j-(1:Int)).toNat) h3 h5) (gc (ix_own (i:=(j-(1:Int))) h6 h5) (gc h4 (gc h4 (gc (q_lt h7) (gc (q_lt h0) (gc (q_lt h0) (gc (FV.fc (srtNc_p0 rfl) rfl) (gc (q_lt h0) (gc (fl_load (i:=(j-(1:Int)).toNat) h3 h5) (gc (fl_le (i:=(j-(1:Int)).toNat) h3 h5) (gc (q_lt h0) (gc (ix_own (i:=(j-(1:Int))) h6 h5) (gc (q_lt h0) (gc h4 (gc (q_lt h0) (gc (q_lt h0) (gc (q_lt h0) (gc (fl_load (i:=j.toNat) h3 h1) (gc (fl_le (i:=j.toNat) h3 h1) (gc (q_lt h0) (gc (ix_own (i:=j) h2 h1) (gc (q_lt h0) (gc (q_lt h0) (gc (q_lt h0) (gc (q_lt h0) gn)))))))))))))))))))))))))))))))))))
  exact raw.cast (by rw [eM'n,eM'c])
theorem srtNI_L1_p1{l:List (List Int)}{i:Nat}{j:Int}{M:List (List Int)}{y200 y201 y202 y203 y204 y205 y206 y207:Int}(h0:(0:Int)<j)(h1:M[j.toNat]? = some [y200,y201,y202,y203])(h2:0≤j)(h3:uni 4 M)(h4:inR (j-(1:Int)))(h5:M[(j-(1:Int)).toNat]? = some [y204,y205,y206,y207])(h6:0≤(j-(1:Int)))(h7:(0:Int)≤(cmpI y201 y205)):CodeOK Tryz.prog 1 zK4c2 (srtNI_S1 l i j M.length (M.flatten.map intP)) (.exit 2) (srtNI_S1 l i j M.length (M.flatten.map intP)):=by
  exact CodeOK.fin (g:=⟨(rng [(4,4),(10,2),(18,35)]),[],[],[]⟩) (o:=[bT,bT,bT,bT,bT,.x (.agg [(intP y200),(intP y201),(intP y202),(intP y203)]),bT,bT,bT,bT,bT,.x (.agg [(intP y204),(intP y205),(intP y206),(intP y207)]),bT,.c (.p (intP (cmpI y201 y205))) [],bT,bT,bF]) (l:=[_,_,_,FC Tryz.prog 103 [(.p (.agg [(intP y200),(intP y201),(intP y202),(intP y203)])),(.p (.agg [(intP y204),(intP y205),(intP y206),(intP y207)]))] [] 1 (.p (intP (cmpI y201 y205))) [],_,_,_,_,_,_,_,_,_,_,_,_,_,_,_,_,_,_]) (by kernel_rfl) (gc (q_ltF h7) (gc (q_lt h0) (gc (q_lt h0) (gc (FV.fc (srtNc_p0 rfl) rfl) (gc (q_lt h0) (gc (fl_load (i:=(j-(1:Int)).toNat) h3 h5) (gc (fl_le (i:=(j-(1:Int)).toNat) h3 h5) (gc (q_lt h0) (gc (ix_own (i:=(j-(1:Int))) h6 h5) (gc (q_lt h0) (gc h4 (gc (q_lt h0) (gc (q_lt h0) (gc (q_lt h0) (gc (fl_load (i:=j.toNat) h3 h1) (gc (fl_le (i:=j.toNat) h3 h1) (gc (q_lt h0) (gc (ix_own (i:=j) h2 h1) (gc (q_lt h0) (gc (q_lt h0) (gc (q_lt h0) (gc (q_lt h0) gn))))))))))))))))))))))
theorem srtNI_L1_p2{l:List (List Int)}{i:Nat}{j:Int}{M:List (List Int)}(h0:j≤(0:Int)):CodeOK Tryz.prog 1 zK4c2 (srtNI_S1 l i j M.length (M.flatten.map intP)) (.exit 2) (srtNI_S1 l i j M.length (M.flatten.map intP)):=by
  exact CodeOK.fin (g:=⟨(rng [(4,4),(10,2),(18,35)]),[],[],[]⟩) (o:=[bF,bF,bF,bF,bF,bF,bF,bF,bF,bF,bF,bF,bF]) (l:=[_,_,_,_,_,_,_,_,_,_,_,_,_]) (by kernel_rfl) (gc (q_ltF h0) (gc (q_ltF h0) (gc (q_ltF h0) (gc (q_ltF h0) (gc (q_ltF h0) (gc (q_ltF h0) (gc (q_ltF h0) (gc (q_ltF h0) (gc (q_ltF h0) (gc (q_ltF h0) (gc (q_ltF h0) (gc (q_ltF h0) (gc (q_ltF h0) gn)))))))))))))
theorem srtN_in(l:List (List Int))(i:Nat)(A R:List (List Int))(hA:A.length<1000)(hi:i=A.length)(x0 x1 x2 x3:Int)(hu:uni 4 (A++[x0,x1,x2,x3]::R)):∀ m,m≤A.length→(∀ t (h:t<A.length),m≤t→ltK 1 [x0,x1,x2,x3] A[t]=true) →
    LoopOK Tryz.prog 1 zK4c2 (srtNI_S1 l i (m:Int) (mv A [x0,x1,x2,x3] m R).length ((mv A [x0,x1,x2,x3] m R).flatten.map intP)) (.exit 2) (srtNI_S1 l i (insPos (ltK 1) [x0,x1,x2,x3] A:Int) (ins (ltK 1) A [x0,x1,x2,x3]++R).length ((ins (ltK 1) A [x0,x1,x2,x3]++R).flatten.map intP)):=by
  have huA:∀ y∈A,y.length=4:=fun y hy=>hu y (List.mem_append_left _ hy)
  have huM:∀ m,uni 4 (mv A [x0,x1,x2,x3] m R):=fun m y hy=>by
    unfold mv at hy
    rcases List.mem_append.1 hy with h | h
    · exact huA y (List.mem_of_mem_take h)
    · rcases List.mem_cons.1 h with rfl | h
      · rfl
      · rcases List.mem_append.1 h with h | h
        · exact huA y (List.mem_of_mem_drop h)
        · exact hu y (List.mem_append_right _ (List.mem_cons_of_mem _ h))
  intro m
  induction m with
  | zero =>
    intro _ hlt
    have e:=insPos_eq (ltK 1) [x0,x1,x2,x3] A 0 (Nat.zero_le _) hlt (.inl rfl)
    rw [← mv_ins,e]
    exact .exit (srtNI_L1_p2 (by simp)) (by simp)
  | succ m ih =>
    intro hm hlt
    have hy:=List.getElem?_eq_getElem (show m<A.length by omega)
    generalize A[m]=y at hy
    obtain ⟨y0,y1,y2,y3,rfl⟩:=len4 (huA y (List.mem_of_getElem? hy))
    have e1:((m+1:Nat):Int).toNat=m+1:=by omega
    have e2:(((m+1:Nat):Int)-1).toNat=m:=by omega
    have hl:=mv_length A [x0,x1,x2,x3] (m+1) R hm
    have g1:(mv A [x0,x1,x2,x3] (m+1) R)[m+1]? = some [x0,x1,x2,x3]:=by rw [mv_get A _ _ R hm];simp
    have g2:(mv A [x0,x1,x2,x3] (m+1) R)[m]? = some [y0,y1,y2,y3]:=by rw [mv_get A _ _ R hm,if_pos (by omega)];exact hy
    by_cases hc:cmpI x1 y1<0
    · have st:=fl_store (k:=4) (i:=m+1) (x:=[y0,y1,y2,y3]) (huM (m+1)) (by omega) rfl
      have hs1:uni 4 ((mv A [x0,x1,x2,x3] (m+1) R).set (m+1) [y0,y1,y2,y3]):=uni_set (huM _) rfl
      have st2:=fl_store (k:=4) (i:=m) (x:=[x0,x1,x2,x3]) hs1 (by rw [List.length_set];omega) rfl
      have gm:((mv A [x0,x1,x2,x3] (m+1) R).set (m+1) [y0,y1,y2,y3])[m]? = some [y0,y1,y2,y3]:=by rw [List.getElem?_set,if_neg (by omega)];exact g2
      have hsw:=mv_swap A [x0,x1,x2,x3] (m+1) R hm (by omega) [y0,y1,y2,y3] (by simpa using hy)
      rw [Nat.add_sub_cancel] at hsw
      simp only [List.map_cons,List.map_nil] at st st2
      refine .step (srtNI_L1_p0 (j:=((m+1:Nat):Int)) (j':=(m:Int)) (M':=mv A [x0,x1,x2,x3] m R) (by omega) (by rw [e1];exact g1) (by omega) (huM _) (by unfold inR;omega) (by rw [e2];exact g2) (by omega) hc ⟨rfl,by rw [e1];exact fl_le (huM _) g1⟩ ⟨by omega,by omega⟩ ⟨rfl,?_⟩ (by omega) (by rw [hl,mv_length A _ _ R (by omega)]) ?_) (ih (by omega) fun t ht h1 => ?_)
      · rw [e1,e2,st];exact fl_le hs1 gm
      · rw [e1,e2,st,st2,hsw]
      · by_cases h2:t=m
        · subst h2
          have h3:=hy
          rw [List.getElem?_eq_getElem ht,Option.some.injEq] at h3
          rw [h3]
          simpa [ltK] using hc
        · exact hlt t ht (by omega)
    · have e:=insPos_eq (ltK 1) [x0,x1,x2,x3] A (m+1) hm hlt (.inr ⟨[y0,y1,y2,y3],by simpa using hy,by simpa [ltK] using hc⟩)
      rw [← mv_ins,e]
      exact .exit (srtNI_L1_p1 (by omega) (by rw [e1];exact g1) (by omega) (huM _) (by unfold inR;omega) (by rw [e2];exact g2) (by omega) (by omega)) (by simp)
theorem srtN_ins(l:List (List Int))(hu:uni 4 l)(hn:l.length<1000):FMM Tryz.prog 197 [.own 0,.p (intP 0),.p (intP (l.length:Int)),.fn 103 [] []] [some (.row 40 l.length (l.flatten.map intP))] (.tup []) [some (.row 40 (isort (ltK 1) l).length ((isort (ltK 1) l).flatten.map intP))]:=by
  have hui:∀ i,uni 4 (isort (ltK 1) (l.take i)):=fun i y hy=>hu y (List.mem_of_mem_take ((isort_mem (ltK 1) _ y).1 hy))
  have key:∀ d i,i+d=l.length→1≤i→LoopOK Tryz.prog 1 zK4c5 (srtNI_S0 l i (isort (ltK 1) (l.take i)++l.drop i).length ((isort (ltK 1) (l.take i)++l.drop i).flatten.map intP)) (.exit 0) (srtNI_S0 l l.length (isort (ltK 1) l).length ((isort (ltK 1) l).flatten.map intP)):=by
    intro d
    induction d with
    | zero =>
      intro i hi _
      obtain rfl:i=l.length:=by omega
      rw [List.take_length,List.drop_length,List.append_nil]
      exact .exit (srtNI_L0_p1 (by omega)) (by simp)
    | succ d ih =>
      intro i hi h1
      have hlt:i<l.length:=by omega
      have hx:=hu l[i] (List.getElem_mem hlt)
      generalize hxx:l[i]=x at hx
      obtain ⟨x0,x1,x2,x3,rfl⟩:=len4 hx
      have hAl:(isort (ltK 1) (l.take i)).length=i:=by rw [isort_length,List.length_take];omega
      have hdr:l.drop i=[x0,x1,x2,x3]::l.drop (i+1):=by rw [List.drop_eq_getElem_cons hlt,hxx]
      have hin:=srtN_in l i (isort (ltK 1) (l.take i)) (l.drop (i+1)) (by omega) hAl.symm x0 x1 x2 x3 (by
        intro y hy
        rcases List.mem_append.1 hy with h | h
        · exact hui i y h
        · rcases List.mem_cons.1 h with rfl | h
          · rfl
          · exact hu y (List.mem_of_mem_drop h)) i (by omega) (fun t ht h2=>by omega)
      have hmv:mv (isort (ltK 1) (l.take i)) [x0,x1,x2,x3] i (l.drop (i+1))=isort (ltK 1) (l.take i)++l.drop i:=by
        have:=mv_end (isort (ltK 1) (l.take i)) [x0,x1,x2,x3] (l.drop (i+1))
        rw [hAl] at this;rw [this,hdr]
      have hsn:=isort_snoc (ltK 1) l i hlt
      rw [hxx] at hsn
      rw [hmv,← hsn] at hin
      exact .step (srtNI_L0_p0 (by omega) hin (by unfold inR;omega) rfl rfl rfl) (ih (i+1) (by omega) (by omega))
  rcases Nat.eq_zero_or_pos l.length with h0 | hp
  · have:l=[]:=List.eq_nil_of_length_eq_zero h0
    subst this
    exact srtNI_p0 (LoopOK.exit (srtNI_L0_p1 (l:=[]) (L:=[]) (i:=1) (by simp)) (by simp))
  · have:=key (l.length-1) 1 (by omega) (by omega)
    have e1:isort (ltK 1) (l.take 1)++l.drop 1=l:=by
      cases l with
      | nil=>simp at hp
      | cons x r=>simp [isort,ins,insPos]
    rw [e1] at this
    exact srtNI_p0 this
def srtNS_S0(l:List (List Int))  : St:=⟨fr 63 [(0,(.own 0)),(1,(.p (intP (l.length:Int)))),(2,(.fn 103 [] [])),(6,(.p (intP 20))),(7,(.p (intP 0))),(8,(.p (intP 20)))],[some (.row 40 l.length (l.flatten.map intP))]⟩
def srtNS_S1(l:List (List Int))  : St:=⟨fr 63 [(0,(.own 0)),(1,(.p (intP (l.length:Int)))),(2,(.fn 103 [] [])),(6,(.p (intP 20))),(7,(.p (intP 0))),(8,(.p (intP 20)))],[some (.row 40 ((isort (ltK 1) l).length) ((isort (ltK 1) l).flatten.map intP))]⟩
theorem srtNS_p0{l:List (List Int)}(hl0:LoopOK Tryz.prog 1 (sub (cd Tryz.f156) [1,1,0,0,0]) (srtNS_S0 l ) (.exit 0) (srtNS_S0 l ))(h1:uni 4 l)(h2:l.length<1000)(hl3:LoopOK Tryz.prog 1 (sub (cd Tryz.f156) [1,1,1,1,0,0]) (srtNS_S1 l ) (.exit 2) (srtNS_S1 l )):FMM Tryz.prog 156 [(.own 0),(.p (intP (l.length:Int))),(.fn 103 [] [])] [some (.row 40 l.length (l.flatten.map intP))] (.tup []) [some (.row 40 ((isort (ltK 1) l).length) ((isort (ltK 1) l).flatten.map intP))]:=by
  exact FMM.fin (k:=1) (g:=⟨[],[],[],[]⟩) rfl Tryz.func156 rfl (o:=[.k 6 ⟨(rng [(3,3),(10,13),(27,1),(43,1),(60,1)]),[],[],[]⟩ (.exit 0) (srtNS_S0 l ),.c (.tup []) [(0,(.row 40 ((zK40 l).length) ((zK40 l).flatten.map intP)))],.k 1 ⟨(rng [(3,3),(10,53)]),[],[],[]⟩ (.exit 2) (srtNS_S1 l )]) (l:=[_,FC Tryz.prog 197 [(.own 0),(.p (intP 0)),(.p (intP (l.length:Int))),(.fn 103 [] [])] [(0,(.row 40 l.length (l.flatten.map intP)))] 1 (.tup []) [(0,(.row 40 ((zK40 l).length) ((zK40 l).flatten.map intP)))],_]) (by kernel_rfl) (gc hl3.code (gc (FMM.fc (ids:=[0]) (srtN_ins l h1 h2) (by kernel_rfl)) (gc hl0.code gn)))
theorem srtNS_L0_p0{l:List (List Int)}(h0:(l.length:Int)<(20:Int)):CodeOK Tryz.prog 1 (sub (cd Tryz.f156) [1,1,0,0,0]) (srtNS_S0 l ) (.exit 0) (srtNS_S0 l ):=by
  exact CodeOK.fin (g:=⟨(rng [(3,3),(10,13),(27,1),(43,1),(60,1)]),[],[],[]⟩) (o:=[bF]) (l:=[_]) (by kernel_rfl) (gc (q_leF h0) gn)
theorem srtNS_L1_p0{l:List (List Int)}(h0:(l.length:Int)≤(20:Int)):CodeOK Tryz.prog 1 (sub (cd Tryz.f156) [1,1,1,1,0,0]) (srtNS_S1 l ) (.exit 2) (srtNS_S1 l ):=by
  exact CodeOK.fin (g:=⟨(rng [(3,3),(10,53)]),[],[],[]⟩) (o:=[bF]) (l:=[_]) (by kernel_rfl) (gc (q_ltF h0) gn)
theorem srtN_stb(l:List (List Int))(hu:uni 4 l)(hn:l.length<20):FMM Tryz.prog 156 [.own 0,.p (intP (l.length:Int)),.fn 103 [] []] [some (.row 40 l.length (l.flatten.map intP))] (.tup []) [some (.row 40 (isort (ltK 1) l).length ((isort (ltK 1) l).flatten.map intP))] := 
  srtNS_p0 (LoopOK.exit (srtNS_L0_p0 (by omega)) (by simp)) hu (by omega) (LoopOK.exit (srtNS_L1_p0 (by omega)) (by simp))
theorem srtNT_p0{l:List (List Int)}(h0:uni 4 l)(h1:l.length<20):FMM Tryz.prog 102 [(.own 0),(.fn 103 [] [])] [some (.row 40 l.length (l.flatten.map intP))] (.tup []) [some (.row 40 ((isort (ltK 1) l).length) ((isort (ltK 1) l).flatten.map intP))]:=by
  exact FMM.fin (k:=1) (g:=⟨[],[],[],[]⟩) rfl Tryz.func102 rfl (o:=[.c (.tup []) [(0,(.row 40 ((zK40 l).length) ((zK40 l).flatten.map intP)))]]) (l:=[FC Tryz.prog 156 [(.own 0),(.p (intP (l.length:Int))),(.fn 103 [] [])] [(0,(.row 40 l.length (l.flatten.map intP)))] 1 (.tup []) [(0,(.row 40 ((zK40 l).length) ((zK40 l).flatten.map intP)))]]) (by kernel_rfl) (gc (FMM.fc (ids:=[0]) (srtN_stb l h0 h1) (by kernel_rfl)) gn)
theorem srtN_ok(l:List (List Int))(hu:uni 4 l)(hn:l.length<20):FMM Tryz.prog 102 [.own 0,.fn 103 [] []] [some (.row 40 l.length (l.flatten.map intP))] (.tup []) [some (.row 40 (isort (ltK 1) l).length ((isort (ltK 1) l).flatten.map intP))]:=srtNT_p0 hu hn
end
end KV
end Go.Proofs
section
namespace Go.Proofs
namespace KL

theorem clashLoop_iff:∀ (r:List Int) (v:Int) (k:Nat),(v::r).Pairwise (· ≤ ·) →
    ((∃ f,clashLoop (some v) (v+k) r=some f∧f≤61)↔(v+k+(r.count v:Nat)≤61∧∀ q∈r,v<q→v+k+(r.count v:Nat)≤q)∧∀ p∈r,v<p→p+(r.count p:Nat)≤61∧∀ q∈r,p<q→p+(r.count p:Nat)≤q)
  | [],v,k,_=>by simp [clashLoop]
  | x::r,v,k,hs=>by
    obtain ⟨h1,h2⟩:=List.pairwise_cons.1 hs
    have hx:v≤x:=h1 x (by simp)
    obtain ⟨h3,h4⟩:=List.pairwise_cons.1 h2
    have hr:∀ q∈r,x≤q:=h3
    unfold clashLoop
    by_cases he:v=x
    · subst he
      rw [if_pos rfl]
      have ih:=clashLoop_iff r v (k+1) h2
      have e:v+((k+1:Nat):Int)=v+k+1:=by omega
      rw [e] at ih
      rw [ih]
      have c1:(((v::r).count v:Nat):Int)=(r.count v:Nat)+1:=by rw [List.count_cons_self];omega
      rw [c1]
      have c2:∀ p,v<p→(v::r).count p=r.count p:=fun p hp=>List.count_cons_of_ne (by omega)
      constructor
      · rintro ⟨⟨q1,q2⟩,q3⟩
        refine ⟨⟨by omega,fun q hq hv => ?_⟩,fun p hp hv => ?_⟩
        · rcases List.mem_cons.1 hq with rfl | hq
          · omega
          · have:=q2 q hq hv;omega
        · rcases List.mem_cons.1 hp with rfl | hp
          · omega
          · rw [c2 p hv]
            obtain ⟨q4,q5⟩:=q3 p hp hv
            refine ⟨q4,fun q hq hv2 => ?_⟩
            rcases List.mem_cons.1 hq with rfl | hq
            · omega
            · exact q5 q hq hv2
      · rintro ⟨⟨q1,q2⟩,q3⟩
        refine ⟨⟨by omega,fun q hq hv => ?_⟩,fun p hp hv => ?_⟩
        · have:=q2 q (List.mem_cons_of_mem _ hq) hv;omega
        · obtain ⟨q4,q5⟩:=q3 p (List.mem_cons_of_mem _ hp) hv
          rw [c2 p hv] at q4 q5
          exact ⟨q4,fun q hq hv2=>q5 q (List.mem_cons_of_mem _ hq) hv2⟩
    · have hlt:v<x:=by omega
      rw [if_neg (by simpa using he)]
      have c0:(x::r).count v=0:=List.count_eq_zero.2 fun hm=>by
        rcases List.mem_cons.1 hm with h | h
        · omega
        · have:=hr v h;omega
      rw [c0]
      by_cases hc:x<v+k
      · rw [if_pos hc]
        constructor
        · rintro ⟨f,h,_⟩;cases h
        · rintro ⟨⟨_,q2⟩,_⟩
          have:=q2 x (by simp) hlt
          simp at this
          omega
      · rw [if_neg hc]
        have ih:=clashLoop_iff r x 1 h2
        have e:x+((1:Nat):Int)=x+1:=rfl
        rw [e] at ih
        rw [ih]
        have c1:(((x::r).count x:Nat):Int)=(r.count x:Nat)+1:=by rw [List.count_cons_self];omega
        have c2:∀ p,x<p→(x::r).count p=r.count p:=fun p hp=>List.count_cons_of_ne (by omega)
        constructor
        · rintro ⟨⟨q1,q2⟩,q3⟩
          refine ⟨⟨by simp;omega,fun q hq hv => ?_⟩,fun p hp hv => ?_⟩
          · rcases List.mem_cons.1 hq with rfl | hq
            · simp;omega
            · have:=hr q hq;simp;omega
          · have hpx:p=x∨(p∈r∧x<p):=by
              rcases List.mem_cons.1 hp with h | h
              · exact .inl h
              · have:=hr p h
                by_cases hpx:p=x
                · exact .inl hpx
                · exact .inr ⟨h,by omega⟩
            rcases hpx with rfl | ⟨hp,hxp⟩
            · rw [c1]
              refine ⟨by omega,fun q hq hv2 => ?_⟩
              rcases List.mem_cons.1 hq with rfl | hq
              · omega
              · have:=q2 q hq hv2;omega
            · rw [c2 p hxp]
              obtain ⟨q4,q5⟩:=q3 p hp hxp
              refine ⟨q4,fun q hq hv2 => ?_⟩
              rcases List.mem_cons.1 hq with rfl | hq
              · omega
              · exact q5 q hq hv2
        · rintro ⟨⟨q1,q2⟩,q3⟩
          obtain ⟨q4,q5⟩:=q3 x (by simp) hlt
          rw [c1] at q4 q5
          refine ⟨⟨by omega,fun q hq hv => ?_⟩,fun p hp hv => ?_⟩
          · have:=q5 q (List.mem_cons_of_mem _ hq) hv;omega
          · obtain ⟨q6,q7⟩:=q3 p (List.mem_cons_of_mem _ hp) (by omega)
            rw [c2 p hv] at q6 q7
            exact ⟨q6,fun q hq hv2=>q7 q (List.mem_cons_of_mem _ hq) hv2⟩

def NoClash(race:List Int):Prop:=∀ p∈race,p≠0→p+(race.count p:Nat)≤61∧∀ q∈race,p<q→p+(race.count p:Nat)≤q

theorem leB_trans:∀ a b c:Int,leB a b=true→leB b c=true→leB a c=true:=fun a b c h1 h2=>by simp [leB] at *;omega
theorem leB_total:∀ a b:Int,(leB a b || leB b a)=true:=fun a b=>by simp [leB];omega

theorem clash_iff(race:List Int)(h0:∀ x∈race,0≤x):clashR race=false↔NoClash race:=by
  have hs:(placesOf race).Pairwise (· ≤ ·):=by
    have:=List.pairwise_mergeSort leB_trans leB_total (race.filter fun x => !nz x)
    exact this.imp (fun h=>by simpa [leB] using h)
  have hm:∀ x,x∈placesOf race↔x∈race∧x≠0:=fun x=>by
    unfold placesOf;rw [List.mem_mergeSort,List.mem_filter];simp [nz]
  have hc:∀ x,x≠0→(placesOf race).count x=race.count x:=fun x hx=>by
    unfold placesOf
    rw [(List.mergeSort_perm _ _).count_eq,List.count_filter]
    simp [nz,hx]
  have key:clashR race=false↔∃ f,clashLoop none 1 (placesOf race)=some f∧f≤61:=by
    unfold clashR
    cases h:clashLoop none 1 (placesOf race) with
    | none=>simp
    | some f=>simp
  rw [key]
  have fin:∀ l:List Int,(∀ x,x∈l↔x∈race∧x≠0)→(∀ x,x≠0→l.count x=race.count x)→((∀ p∈l,p+(l.count p:Nat)≤61∧∀ q∈l,p<q→p+(l.count p:Nat)≤q)↔NoClash race):=fun l hm hc=>by
    constructor
    · intro h p hp hp0
      obtain ⟨h1,h2⟩:=h p ((hm p).2 ⟨hp,hp0⟩)
      rw [hc p hp0] at h1 h2
      exact ⟨h1,fun q hq hlt=>h2 q ((hm q).2 ⟨hq,by have:=h0 p hp;omega⟩) hlt⟩
    · intro h p hp
      obtain ⟨h1,h2⟩:=(hm p).1 hp
      rw [hc p h2]
      obtain ⟨h3,h4⟩:=h p h1 h2
      exact ⟨h3,fun q hq hlt=>h4 q ((hm q).1 hq).1 hlt⟩
  rw [← fin _ hm hc]
  cases hl:placesOf race with
  | nil=>simp [clashLoop]
  | cons x r =>
    rw [hl] at hs hm
    have hx1:1≤x:=by
      obtain ⟨h1,h2⟩:=(hm x).1 (by simp)
      have:=h0 x h1;omega
    unfold clashLoop
    rw [if_neg (by simp),if_neg (by omega)]
    have:=clashLoop_iff r x 1 hs
    rw [show x+((1:Nat):Int)=x+1 from rfl] at this
    rw [this]
    obtain ⟨h3,_⟩:=List.pairwise_cons.1 hs
    have c1:(((x::r).count x:Nat):Int)=(r.count x:Nat)+1:=by rw [List.count_cons_self];omega
    have c2:∀ p,x<p→(x::r).count p=r.count p:=fun p hp=>List.count_cons_of_ne (by omega)
    constructor
    · rintro ⟨⟨q1,q2⟩,q3⟩ p hp
      have hpx:p=x∨(p∈r∧x<p):=by
        rcases List.mem_cons.1 hp with h | h
        · exact .inl h
        · have:=h3 p h
          by_cases hpx:p=x
          · exact .inl hpx
          · exact .inr ⟨h,by omega⟩
      rcases hpx with rfl | ⟨hp,hxp⟩
      · rw [c1]
        refine ⟨by omega,fun q hq hv2 => ?_⟩
        rcases List.mem_cons.1 hq with rfl | hq
        · omega
        · have:=q2 q hq hv2;omega
      · rw [c2 p hxp]
        obtain ⟨q4,q5⟩:=q3 p hp hxp
        refine ⟨q4,fun q hq hv2 => ?_⟩
        rcases List.mem_cons.1 hq with rfl | hq
        · omega
        · exact q5 q hq hv2
    · intro h
      obtain ⟨q4,q5⟩:=h x (by simp)
      rw [c1] at q4 q5
      refine ⟨⟨by omega,fun q hq hv => ?_⟩,fun p hp hv => ?_⟩
      · have:=q5 q (List.mem_cons_of_mem _ hq) hv;omega
      · obtain ⟨q6,q7⟩:=h p (List.mem_cons_of_mem _ hp)
        rw [c2 p hv] at q6 q7
        exact ⟨q6,fun q hq hv2=>q7 q (List.mem_cons_of_mem _ hq) hv2⟩

theorem valid_take{c:Cup}(hV:Valid c)(n:Nat):Valid { c with done:=c.done.take n } :=
  ⟨hV.sk1,hV.sk2,hV.ra1,hV.ra2,hV.be1,hV.be2,hV.pt1,hV.pt2,by have:=hV.dn;simp;omega,fun r hr=>hV.len r (List.mem_of_mem_take hr),hV.pts,fun r hr=>hV.rows r (List.mem_of_mem_take hr),hV.falls,by
    have:=hV.clash
    rw [List.any_eq_false] at this ⊢
    exact fun r hr=>this r (List.mem_of_mem_take hr)⟩
def race2(n o:Nat)(p:Int)(s:Nat)(w:Int):List Int:=((List.replicate n (0:Int)).set o p).set s w
theorem race2_length(n o:Nat)(p:Int)(s:Nat)(w:Int):(race2 n o p s w).length=n:=by simp [race2]
theorem race2_mem{n o s:Nat}{p w x:Int}(h:x∈race2 n o p s w):x=0∨x=p∨x=w:=by
  unfold race2 at h
  rcases List.mem_or_eq_of_mem_set h with h | h
  · rcases List.mem_or_eq_of_mem_set h with h | h
    · rw [List.mem_replicate] at h;exact .inl h.2
    · exact .inr (.inl h)
  · exact .inr (.inr h)
theorem count_set_le{l:List Int}{i:Nat}{x y:Int}:(l.set i x).count y≤l.count y+if x=y then 1 else 0:=by
  by_cases hi:i<l.length
  · rw [List.count_set hi]
    split <;> split <;> simp_all <;> omega
  · rw [List.set_eq_of_length_le (by omega)];omega
theorem race2_noClash{n o s:Nat}{p w:Int}(hp:0≤p∧p≤60)(hw:0≤w∧w≤60)(hne:p=0∨w=0∨p≠w):NoClash (race2 n o p s w):=by
  have hcnt:∀ x,x≠0→(race2 n o p s w).count x≤1:=fun x hx=>by
    have h1:=count_set_le (l:=(List.replicate n (0:Int)).set o p) (i:=s) (x:=w) (y:=x)
    have h2:=count_set_le (l:=List.replicate n (0:Int)) (i:=o) (x:=p) (y:=x)
    have h3:(List.replicate n (0:Int)).count x=0:=by rw [List.count_replicate];simp;omega
    unfold race2
    by_cases e1:w=x <;> by_cases e2:p=x <;> simp [e1,e2] at h1 h2 ⊢ <;> omega
  intro x hx h0
  have:=hcnt x h0
  refine ⟨?_,fun q hq hlt=>by omega⟩
  rcases race2_mem hx with h | h | h <;> omega
theorem valid_race{c:Cup}(hV:Valid c)(hd:(c.done.length:Int)<c.ra){race:List Int}(hl:(race.length:Int)=c.sk)(h0:∀ x∈race,0≤x∧x≤60)(hn:NoClash race):Valid (withC c [race]):=by
  refine valid_with hV (by simp;omega) (fun r hr => ?_) (fun r hr => ?_) ?_
  · rw [List.mem_singleton] at hr;subst hr;exact hl
  · rw [List.mem_singleton] at hr;subst hr;exact h0
  · simp [(clash_iff race fun x hx=>(h0 x hx).1).2 hn]
theorem valid_race2{c:Cup}(hV:Valid c)(hd:(c.done.length:Int)<c.ra){o s:Nat}{p w:Int}(hp:0≤p∧p≤60)(hw:0≤w∧w≤60)(hne:p=0∨w=0∨p≠w):Valid (withC c [race2 c.sk.toNat o p s w]) :=
  valid_race hV hd (by rw [race2_length];have:=hV.sk1;omega) (fun x hx=>by rcases race2_mem hx with h | h | h <;> omega) (race2_noClash hp hw hne)
end KL
end Go.Proofs
end
