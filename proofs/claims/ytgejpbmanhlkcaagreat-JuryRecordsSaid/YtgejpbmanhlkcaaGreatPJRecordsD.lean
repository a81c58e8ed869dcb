/- Parts of the proof of JRecords: laws of walks, contracts of functions, plain models. No condition. -/
import Derived.Lib.Small
import Derived.Below
import Derived.RangeFuncNested
import Derived.RangeFuncLeaves
import Derived.Shelf.Abstract
import Derived.OwnWalkIn
import Derived.TacticsInMore
import Derived.LoopNIn
import Derived.LoopIn
import Derived.OrdersIn
import Derived.Deep.WholeRow
import Derived.Test.YtgejpbmanhlkcaaGreatPJRecordsC
set_option linter.unusedVariables false
set_option linter.unusedSimpArgs false
set_option maxRecDepth 100000
namespace Go.Proofs
namespace KV
section
open Go.ChangeMaps (setBlock)
variable {P:Program} {C:Cx} {M:Mem} {w:World}

def aBd(P:Program)(C:Cx)(M:Mem)(w:World)(C':Cx)(M':Mem)(W:World):Prop:=(∀ b,C'.F b↔C.F b)∧aV P C' M' W∧Fr C M w C' M' W
def aFs(M M':Mem):Prop:=(∀ (i:Nat) (es:List (Value × PV)) (cl:Nat),M'[i]? = some (some (.mp es cl))→∃ o,M[i]? = some (some o)∧o.live=true)∧aKe M'

theorem aBd.same{M':Mem}{W W':World}{C':Cx}(hn:aFs M M')(hM0:aV P C M w)(h:aBd P C M w C' M' W)(hsz:W.heap.size≤W'.heap.size)(ho:W'.os=W.os)(ht:W'.tape=W.tape)(hu:W'.output=W.output)
  (hs:∀ b,b<W.heap.size→(b<w.heap.size∧(∀ (id:Nat) (o:AO),M[id]? = some (some o)→o.live=true→C.ι id=some b→∃ o',M'[id]? = some (some o')∧o'.live=true))∨(kP W b∧∃ (id:Nat) (o:AO),M'[id]? = some (some o)∧o.live=true∧C'.ι id=some b)→W'.heap[b]? = W.heap[b]?):aBd P C M w C' M' W':=by
 obtain ⟨hF,hM,f⟩:=h
 have old:∀ (i:Nat) (o:AO),M[i]? = some (some o)→C'.ι i=C.ι i:=fun i o h=>(f.ids i o h).2.1
 have hFz:∀ b,C'.F b→W'.heap[b]? = W.heap[b]? := fun b hb=>hs b (hM.Fs b hb) (.inl ⟨hM0.Fs b ((hF b).1 hb),fun id o ho hl he=>absurd ((hF b).1 hb) (hM0.nF id o b ho hl he)⟩)
 have hL:Le C' C' M' M' W W':=⟨fun _ o h=>⟨o,h⟩,fun _ _ _ _ _ cs h=>⟨cs,h⟩,fun _ o h o' h' hl=>by rw [h] at h';cases h';exact ⟨hl,rfl,rfl⟩,fun _ h=>h,hFz⟩
 refine ⟨hF,⟨fun i ty n cs hm => ?_,fun i ty cs hm => ?_,fun i es cl hm => ?_,hM.inj,hM.nF,fun b hb=>Nat.lt_of_lt_of_le (hM.Fs b hb) hsz,fun i o b ho hl hb=>Nat.lt_of_lt_of_le (hM.lt i o b ho hl hb) hsz⟩,
  ⟨ho.trans f.os,ht.trans f.tape,hu.trans f.out,Nat.le_trans f.size hsz,fun b hb hno=>(hs b (Nat.lt_of_lt_of_le hb f.size) (.inl ⟨hb,fun id o ho hl he=>absurd he (hno id o ho hl)⟩)).trans (f.keep b hb hno),f.ids,f.row,f.liv,f.new,f.F1,f.F2⟩⟩
 ·rcases hM.row _ _ _ _ hm with h4 | ⟨b,arr,inf,q0,q1,q2,q3,q4,q5,q6,q7,q8⟩
  ·exact .inl h4
  ·exact .inr ⟨b,arr,inf,q0,(hs b (cD q1) (.inr ⟨eZ q1,i,_,hm,rfl,q0⟩)).trans q1,q2,q3,q4,q5,q6,fun j hj=>(q7 j hj).mono hL.F hL.fz,q8⟩
 ·obtain ⟨b,arr,q0,q1,q2,q3,q4⟩:=hM.box _ _ _ hm
  exact ⟨b,arr,q0,(hs b (cD q1) (.inr ⟨eZ q1,i,_,hm,rfl,q0⟩)).trans q1,q2,fun j hj=>(q3 j hj).mono hL,q4⟩
 ·obtain ⟨b,arr,q0,q1,q2,q3⟩:=hM.mp _ _ _ hm
  obtain ⟨o,ho',hl⟩:=hn.1 _ _ _ hm
  have hb:C.ι i=some b:=by rw [← old i o ho'];exact q0
  refine ⟨b,arr,q0,(hs b (cD q1) (.inl ⟨hM0.lt i o b ho' hl hb,fun id o2 ho2 hl2 he => ?_⟩)).trans q1,q2,fun j hj => ?_⟩
  ·obtain rfl:=hM0.inj id i o2 o b ho2 hl2 ho' hl he hb
   exact ⟨_,hm,rfl⟩
  ·obtain ⟨en,r1,r2,r3,r4⟩:=q3 j hj
   exact ⟨en,r1,r2,r3,r4.mono hL.F hL.fz⟩

theorem aBd.own{M':Mem}{W W':World}{C':Cx}{row:Option Nat}(hn:aFs M M')(hM0:aV P C M w)(h:aBd P C M w C' M' W)(hg:W.grownBy W' row)
  (hr:∀ r,row=some r→w.heap.size≤r∧∃ o:Obj,W.heap[r]? = some o∧o.isCells=false):aBd P C M w C' M' W' :=
 h.same hn hM0 hg.size hg.os hg.tape hg.output fun b hb hd=>hg.block b hb fun e=>by
  obtain ⟨q1,o,q2,q3⟩:=hr b e.symm
  rcases hd with ⟨hd,_⟩ | ⟨hd,_⟩
  ·omega
  ·exact iY q2 q3 hd
end
end KV
end Go.Proofs
section
namespace Go.Proofs
open Go.RowKit Go.Lib
namespace KV
attribute [local go_sem] Oper.semAt_some

def bk(n i:Nat):List Nat:=((List.range n).drop i).reverse
theorem bJw{n i:Nat}(h:i<n):bk n i=bk n (i+1)++[i]:=by
 unfold bk
 rw [List.drop_eq_getElem_cons (by simpa using h),List.reverse_cons]
 simp
theorem bSs(n:Nat):bk n n=[]:=by unfold bk;rw [List.drop_eq_nil_of_le (by simp)];rfl
theorem bJx(n:Nat):bk n 0=(List.range n).reverse:=rfl
theorem aNu{n i:Nat}:(bk n i).length=n-i:=by simp [bk]
theorem aYz{n i:Nat}(h:i≤n):bk n i <+: bk n 0:=by
 unfold bk
 rw [List.drop_zero]
 refine ⟨((List.range n).take i).reverse,?_⟩
 rw [← List.reverse_append,List.take_append_drop]
theorem bTx{n i:Nat}(h:i<n):(bk n (i+1)).length<(bk n 0).length:=by rw [aNu,aNu];omega
end KV
end Go.Proofs
end
section
namespace Go.Proofs
open Go.RowKit Go.Lib Go.Shelf
namespace KV
attribute [local go_sem] Oper.semAt_some
def Hid(p:Prop):Prop:=p
theorem hid{p:Prop}(h:p):Hid p:=h
theorem Hid.out{p:Prop}(h:Hid p):p:=h
def vals6(x:List Int):Array Value:=(x.map (Value.int .i64)).toArray
set_option maxRecDepth 1000000 in
set_option maxHeartbeats 2000000 in
theorem aNs(dc:List (List Int))(hl:dc.length≤1000)(F0:Nat→Prop)(n l b1 o1 b2 o2 cap:Nat)(hn:1≤n)(J Jx:List Nat→World→Prop)
  (hY:∀ pre (k:Nat) (a b c d e f:Int) W,dc[k]? = some [a,b,c,d,e,f]→J pre W→pre.length<(bk dc.length 0).length→YieldAt Fence.wide (n-1) Tryz.prog l #[.int .i64 k,.agg #[.int .i64 a,.int .i64 b,.int .i64 c,.int .i64 d,.int .i64 e,.int .i64 f]] W fun e W' =>
   (e = .returned (.bool true)∧J (pre++[k]) W'∧KpG F0 W W')∨(e = .returned (.bool false)∧Jx (pre++[k]) W'))
  (W:World) (hJ:AbidesFrom W.heap.size J) (hF:∀ b,F0 b→b<W.heap.size)
  (hc:∀ W',KpG F0 W W'→∀ k:Nat,k<dc.length→∃ a b c d e f,dc[k]? = some [a,b,c,d,e,f]∧W'.cell? ⟨b2,o2+k*6,none⟩=some (.int .i64 a)∧W'.cell? ⟨b2,o2+k*6+1,none⟩=some (.int .i64 b)∧W'.cell? ⟨b2,o2+k*6+2,none⟩=some (.int .i64 c)∧W'.cell? ⟨b2,o2+k*6+3,none⟩=some (.int .i64 d)∧W'.cell? ⟨b2,o2+k*6+4,none⟩=some (.int .i64 e)∧W'.cell? ⟨b2,o2+k*6+5,none⟩=some (.int .i64 f))
  (hk:∀ W',KpG F0 W W'→W'.cell? ⟨b1,o1,none⟩=some (.slice (some ⟨b2,o2,none⟩) dc.length cap)) (h0:J [] W) :
  CallsIn Fence.wide n Tryz.prog 187 #[.func (.yield l) #[] #[],.pointer (some ⟨b1,o1,none⟩)] W fun e W'=>(∃ v,e = .returned v) ∧
   ((∃ ys,ys=bk dc.length 0∧J ys W')∨(∃ pre,pre <+: bk dc.length 0∧Jx pre W')):=by
 have HJ:=hid hJ
 have HY:=hid hY
 have HC:=hid hc
 have HKC:=hid hk
 have HF0:=hid hF
 have HJ0:=hid h0
 have k0:=hk W (KpG.refl _ _)
 clear hJ hY hc h0 hk hF
 refine callsIn_of_wp Tryz.func187 rfl trivial ?_ rfl
 simp only [Tryz.ntmps187,List.size_toArray,List.length_cons,List.length_nil,Nat.reduceAdd,Nat.reduceSub,Array.replicate_succ,Array.replicate_zero,List.push_toArray,List.append_toArray,List.nil_append,List.cons_append]
 gi_wp2
 clear k0
 gi_loopw [3] (fun i wr=>∃ k:Nat,k≤dc.length∧i = .int .i64 ((k:Int)-1)∧J (bk dc.length k) wr∧KpG F0 W wr)
  (fun i _=>(intOf i+1).toNat)
 case atStart=>exact ⟨dc.length,Nat.le_refl _,by go_num,by rw [bSs];exact HJ0.out,KpG.refl _ _⟩
 case round =>
  obtain ⟨k,hk,rfl,hJk,hK⟩:=hrel
  have HJK:=hid hJk
  have HK:=hid hK
  have k0:=HKC.out wr hK
  have HFR:=hid (fun b (hb:F0 b)=>Nat.lt_of_lt_of_le (HF0.out b hb) HK.out.size)
  clear hJk hK
  rcases Nat.eq_zero_or_pos k with rfl | hpos
  ·gi_wp2
   go_end0
   exact ⟨⟨_,rfl⟩,.inl ⟨_,rfl,HJK.out⟩⟩
  ·obtain ⟨k,rfl⟩:∃ j,k=j+1:=⟨k-1,by omega⟩
   have e1:((k+1:Nat):Int)-1=(k:Int):=by omega
   have hlt:(k:Int)<(dc.length:Int):=by omega
   have hlt2:(dc.length:Int)≤1000:=by omega
   rw [e1]
   obtain ⟨a,b,c,d,e,f,hx0,c0,c1,c2,c3,c4,c5⟩:=HC.out wr HK.out k (by omega)
   have HL:=hid (bTx (n:=dc.length) (i:=k) (by omega))
   have HB:=hid (bJw (n:=dc.length) (i:=k) (by omega))
   have HP:=hid (aYz (n:=dc.length) (i:=k) (by omega))
   have hge:(k:Int) ≥ 0:=by omega
   obtain ⟨fn,tmps,assign,body,hy,hR⟩:=HY.out _ k a b c d e f wr hx0 HJK.out HL.out
   clear hx0
   gi_wp2_with (refine hR.mono ?_;clear hR;rintro e w3 (⟨rfl,hJ3,hK3⟩ | ⟨rfl,hx⟩))
   ·go_roundw
    case rel=>exact ⟨k,by omega,by go_num,by rw [HB.out];exact hJ3,HK.out.trans hK3⟩
    case measure=>simp [intOf]
   ·refine bodyPost_ret (results_none rfl _ _ _) rfl ?_
    exact ⟨⟨_,rfl⟩,.inr ⟨bk dc.length (k+1)++[k],HB.out ▸ HP.out,hx⟩⟩
set_option maxRecDepth 1000000 in
set_option maxHeartbeats 2000000 in
theorem aNt(n l b1 o1 cap:Nat)(p:Option Addr)(hn:1≤n)(J:World→Prop)(W:World)(hk:W.cell? ⟨b1,o1,none⟩=some (.slice p 0 cap))(h0:J W) :
  CallsIn Fence.wide n Tryz.prog 187 #[.func (.yield l) #[] #[],.pointer (some ⟨b1,o1,none⟩)] W fun e W'=>(∃ v,e = .returned v)∧J W':=by
 have HJ0:=hid h0
 have k0:=hk
 clear h0 hk
 refine callsIn_of_wp Tryz.func187 rfl trivial ?_ rfl
 simp only [Tryz.ntmps187,List.size_toArray,List.length_cons,List.length_nil,Nat.reduceAdd,Nat.reduceSub,Array.replicate_succ,Array.replicate_zero,List.push_toArray,List.append_toArray,List.nil_append,List.cons_append]
 gi_wp2
 clear k0
 gi_loopw [3] (fun i wr=>i = .int .i64 (-1)∧J wr) (fun i _=>(intOf i+1).toNat)
 case atStart=>exact ⟨by go_num,HJ0.out⟩
 case round =>
  obtain ⟨rfl,hJk⟩:=hrel
  have HJK:=hid hJk
  clear hJk
  gi_wp2
  go_end0
  exact ⟨⟨_,rfl⟩,HJK.out⟩
end KV
end Go.Proofs
end
namespace Go.Proofs
namespace KV
section
variable {P:Program} {ops:Array Oper} {md:Region.Mode} {Q:Exit→Act→World→Prop} {F:Fence} {n:Nat}

def VS(P:Program)(m:Sem Next):Prop:=∀ w,(∃ v w',m.run P w = .ok (.value v) w')∨(∃ w',m.run P w = .ok .skip w')∨∃ x w',m.run P w = .halt x w'
theorem VS.val(m:Sem Value):VS P (do pure (.value (← m))):=fun w=>by
 cases h:m.run P w with
 | ok v w'=>exact .inl ⟨v,w',by simp [h,Result.andThen]⟩
 | halt x w'=>exact .inr (.inr ⟨x,w',by simp [h,Result.andThen]⟩)
theorem VS.unit(m:Sem Unit):VS P (do m;pure .skip):=fun w=>by
 cases h:m.run P w with
 | ok v w'=>exact .inr (.inl ⟨w',by simp [h,Result.andThen]⟩)
 | halt x w'=>exact .inr (.inr ⟨x,w',by simp [h,Result.andThen]⟩)
theorem VS.bind{α:Type}(m:Sem α)(f:α→Sem Next)(h:∀ x,VS P (f x)):VS P (m >>= f):=fun w=>by
 cases e:m.run P w with
 | ok v w' =>
  rcases h v w' with ⟨u,w2,q⟩ | ⟨w2,q⟩ | ⟨x,w2,q⟩
  ·exact .inl ⟨u,w2,by simp [e,Result.andThen,q]⟩
  ·exact .inr (.inl ⟨w2,by simp [e,Result.andThen,q]⟩)
  ·exact .inr (.inr ⟨x,w2,by simp [e,Result.andThen,q]⟩)
 | halt x w'=>exact .inr (.inr ⟨x,w',by simp [e,Result.andThen]⟩)
theorem VS.pure(v:Value):VS P (Pure.pure (.value v):Sem Next):=fun w => .inl ⟨v,w,rfl⟩
def wS(o:Oper):Bool:=match o.op with
 | .move _=>true
 | .assign _=>true
 | .indexAddr _ _ _=>true
 | .fieldAddr _ _ _=>true
 | .field _ _ _=>true
 | .load _ _=>true
 | .store _ _ _=>true
 | .lookup _ _ _ _=>true
 | .buildSlice _ _ _=>true
 | .mapUpdate _ _ _ _=>true
 | .nilCheck _=>true
 | .call c=>match c.callee with
  | .builtin .append=>true
  | _=>false
 | _=>false
theorem bJv{o:Oper}(h:wS o=true)(ρ:Operand→Value):VS P (execOp ρ o):=by
 unfold wS at h
 unfold execOp
 cases ho:o.op <;> rw [ho] at h <;> first | exact absurd h Bool.false_ne_true | exact VS.val _ | exact VS.unit _ | skip
 case move x=>exact fun w => .inl ⟨_,w,rfl⟩
 case assign x=>exact fun w => .inl ⟨_,w,rfl⟩
 case nilCheck x =>
  dsimp only
  split
  ·exact fun w => .inr (.inr ⟨_,_,rfl⟩)
  ·exact fun w => .inr (.inr ⟨_,_,rfl⟩)
  ·exact fun w => .inr (.inr ⟨_,_,rfl⟩)
  ·split
   ·exact fun w => .inr (.inr ⟨_,_,rfl⟩)
   ·refine VS.bind _ _ fun p=>VS.bind _ _ fun q => ?_
    split
    ·exact VS.bind _ _ fun _=>VS.pure _
    ·exact VS.pure _
   ·exact VS.pure _
  ·exact VS.pure _
 case call c =>
  dsimp only at h
  show VS P (resolve ρ c o.type >>= fun d=>invoke d.target d.args)
  split at h
  ·rename_i hc
   unfold resolve
   rw [hc]
   exact VS.val _
  ·cases h
theorem aNr{o:Oper}(h:wS o=true):∀ c,o.op ≠ .defer c:=fun c hc=>by unfold wS at h;rw [hc] at h;cases h

theorem aJj(hall:∀ f,F.fn f){i:Nat}{K:Act→World→Prop}{a:Act}{w:World}(hL:¬ LetsOut Q)(hc:∀ o,ops[i]? = some o→wS o=true)(h:wpOp P ops Q i K a w):wpOpIn F n P ops Q i K a w:=by
 unfold wpOp at h
 unfold wpOpIn
 cases ho:ops[i]? with
 | none=>rw [ho] at h;exact h
 | some o =>
  rw [ho] at h
  dsimp only at h ⊢
  split
  ·rename_i hw
   rw [if_pos hw] at h
   rcases h with h | h
   ·unfold Oper.wp at h
    unfold Oper.wpIn
    refine ⟨fun f _=>hall f,?_⟩
    rw [Oper.semAt_plain _ _ _ (aNr (hc o ho))]
    rcases bJv (P:=P) (hc o ho) a.eval w with ⟨v,w',e⟩ | ⟨w',e⟩ | ⟨x,w',e⟩
    ·rw [e] at h ⊢;exact h
    ·rw [e] at h ⊢;exact h
    ·rw [e] at h ⊢
     cases x <;> first | exact h | exact h.elim
   ·exact absurd h.2 hL
  ·rename_i hw
   rw [if_neg hw] at h
   exact ⟨fun f _=>hall f,h⟩
theorem tY(hall:∀ f,F.fn f)(hL:¬ LetsOut Q)(hc:∀ (i:Nat) (o:Oper),ops[i]? = some o→wS o=true):∀ (fuel:Nat) (listed:Array Bool) (a:Act) (w:World),wpAny P md ops Q fuel listed a w→wpAnyIn F n P md ops Q fuel listed a w
 | 0,_,_,_,h=>h
 | fuel+1,listed,a,w,h=>⟨h.1,fun i hi=>wpOpIn_mono (fun a' w' h'=>tY hall hL hc fuel _ a' w' h') (aJj hall hL (hc i) (h.2 i hi))⟩

theorem aYy{S:World→Prop}{id:Nat}{l:List Oper}{a:Act}{w:World}{o1 o2 o3:Oper}(hall:∀ f,F.fn f)(hL:¬ LetsOut Q)(hcalm:l.all wS=true)(ts:List Nat)(r1 r2 r3:Nat)(hm:P.follows .mixedOrders=true)(hB:aFv l ts r1 r2 r3=true)(h1:l[r1]? = some o1)(h2:l[r2]? = some o2)(h3:l[r3]? = some o3)
  (hQ:∀ c a w,¬ Q (.panic c) a w) (hS:S { w with drawn:=w.drawn+1 }) (vs:List Value) (hl:vs.length=ts.length) (hy:aFu P S ((ts.filterMap fun i=>l[i]?).zip vs) a)
  (h:∀ a',a'=wT ((ts.filterMap fun i=>l[i]?).zip vs) a→∃ v1 w1 v2 w2 w3,(execOp a'.eval o1).run P { w with drawn:=w.drawn+1 } = .ok (.value v1) w1∧S w1∧(execOp (a'.put o1.dst v1).eval o2).run P w1 = .ok (.value v2) w2∧S w2 ∧
   (execOp ((a'.put o1.dst v1).put o2.dst v2).eval o3).run P w2 = .ok .skip w3∧Q .normal (((a'.put o1.dst v1).put o2.dst v2).put o3.dst undef) w3):(Code.region id l.toArray true).wpIn F n P Q a w:=by
 unfold aFv at hB
 simp only [Bool.and_eq_true,decide_eq_true_eq] at hB
 obtain ⟨⟨⟨hsel,ht⟩,hsz⟩,hne⟩:=hB
 refine wpIn_region_any hm (tY hall hL (fun i o ho=>List.all_eq_true.1 hcalm o (List.mem_of_getElem? (by simpa using ho))) _ _ _ _ (aAj (S:=S) (L:=r3) _ _ _ _ ?_))
 rw [← hsz]
 refine aDj (rs:=[r1,r2,r3]) hsel hQ hS ts vs _ a hl (by rw [hsz];exact ht) (by simpa using hy) (fun listed' hc => ?_)
 obtain ⟨v1,w1,v2,w2,w3,e1,s1,e2,s2,e3,hq⟩:=h _ rfl
 simp only [aDi.chain,Bool.and_eq_true,decide_eq_true_eq] at hc
 obtain ⟨⟨g1,c1⟩,⟨g2,c2⟩,⟨g3,c3⟩,c4⟩:=hc
 have k1:l.toArray[r1]? = some o1:=by simpa using h1
 have k2:l.toArray[r2]? = some o2:=by simpa using h2
 have k3:l.toArray[r3]? = some o3:=by simpa using h3
 rw [k1] at g1;rw [k2] at g2;rw [k3] at g3
 simp only [Option.isNone_iff_eq_none] at g1 g2 g3
 have e1':((ts.filterMap fun i=>l.toArray[i]?))=(ts.filterMap fun i=>l[i]?):=by simp
 rw [e1']
 refine sG c1 k1 g1 (.inl e1) (fun _=>s1) ?_
 refine sG c2 k2 g2 (.inl e2) (fun _=>s2) ?_
 refine sG c3 k3 g3 (.inr ⟨e3,rfl⟩) (fun h=>absurd rfl h) ?_
 exact ⟨by simpa using c4,hq⟩
end
section
open Go.ChangeMaps (setBlock)
variable {P:Program} {C:Cx} {M:Mem} {w:World}

theorem bJu{M':Mem}(hM:aV P C M w)(h1:∀ (i:Nat) (o:AO),M'[i]? = some (some o)→M[i]? = some (some o))
  (h2:∀ (i ty:Nat) (cs:List AV),M'[i]? = some (some (.box ty cs))→∀ x∈cs,∀ u,Rep C M w x u→Rep C M' w x u):aV P C M' w:=by
 refine ⟨fun i ty n cs hm=>hM.row _ _ _ _ (h1 _ _ hm),fun i ty cs hm => ?_,fun i es cl hm=>hM.mp _ _ _ (h1 _ _ hm),fun i i' o o' b q1 q2 q3 q4=>hM.inj i i' o o' b (h1 _ _ q1) q2 (h1 _ _ q3) q4,fun i o b q1=>hM.nF i o b (h1 _ _ q1),hM.Fs,fun i o b q1=>hM.lt i o b (h1 _ _ q1)⟩
 obtain ⟨b,arr,q0,q1,q2,q3,q4⟩:=hM.box _ _ _ (h1 _ _ hm)
 exact ⟨b,arr,q0,q1,q2,fun j hj=>h2 _ _ _ hm _ (List.getElem_mem hj) _ (q3 j hj),q4⟩
theorem aJh{M':Mem}{i off:Nat}{u:Value}(hi:M'[i]? = M[i]?)(h:Rep C M w (.ptr i off) u):Rep C M' w (.ptr i off) u:=by
 cases h with
 | ptr _ _ _ h0 ha h hp=>exact .ptr i off u h0 (by rw [hi];exact ha) (by rw [hi];exact h) hp
theorem aNq{M':Mem}{i:Nat}{u:Value}(hi:M'[i]? = M[i]?)(h:Rep C M w (.mp i) u):Rep C M' w (.mp i) u:=by
 cases h with
 | mp _ _ h0 ha h=>exact .mp i u h0 (by rw [hi];exact ha) (by rw [hi];exact h)
theorem qQ{M':Mem}{x:PV}{u:Value}(h:Rep C M w (.p x) u):Rep C M' w (.p x) u:=by
 cases h with
 | p _ _ h=>exact .p _ _ h

theorem aJi{b ty k:Nat}{cs:List PV}{arr:Array Value}(hM:aV P C M w)(hf:wW M k)(hh:w.heap[b]? = some (.cells arr ty (0,0)))(hnF:¬ C.F b)(hnl:∀ (id:Nat) (o:AO),M[id]? = some (some o)→o.live=true→C.ι id≠some b)
  (hs:arr.size=cs.length) (hrep:∀ j (h:j<cs.length),cN C.F w cs[j] (arr.getD j undef)) (h1:∀ j,j<cs.length→(arr.getD j undef).oneCell'=true) :
  aV P (C.grow k b 1) (bA M k (some (.box ty (cs.map .p)))) w∧Le C (C.grow k b 1) M (bA M k (some (.box ty (cs.map .p)))) w w:=by
 have hne:∀ (j:Nat) (o':AO),M[j]? = some (some o')→j≠k:=fun j o' h e=>hf o' (e ▸ h)
 have hold:∀ (j:Nat) (o':AO),j≠k→(bA M k (some (.box ty (cs.map .p))))[j]? = some (some o')→M[j]? = some (some o'):=fun j o' h=>(aT M k j _ o' (fun e=>h e.symm)).1
 have hfw:∀ (j:Nat) (o':AO),M[j]? = some (some o')→(bA M k (some (.box ty (cs.map .p))))[j]? = some (some o'):=fun j o' h=>(aT M k j _ o' (fun e=>hne j o' h e.symm)).2 h
 have hι:∀ j,j≠k→(C.grow k b 1).ι j=C.ι j:=fun j h=>by simp [Cx.grow,h]
 have hκ:∀ j,j≠k→(C.grow k b 1).κ j=C.κ j:=fun j h=>by simp [Cx.grow,h]
 have hιs:(C.grow k b 1).ι k=some b:=by simp [Cx.grow]
 have hle:Le C (C.grow k b 1) M (bA M k (some (.box ty (cs.map .p)))) w w:=by
  refine ⟨fun j o h=>⟨o,hfw j o h⟩,fun j o h ty' n' cs' hm=>⟨cs',hold j _ (hne j o h) hm⟩,fun j o h o' hm hl => ?_,fun _ h=>h,fun _ _=>rfl⟩
  have:=hold j _ (hne j o h) hm
  rw [h] at this;cases this
  exact ⟨hl,hι j (hne j o h),hκ j (hne j o h)⟩
 have hnew:∀ (o':AO),(bA M k (some (.box ty (cs.map .p))))[k]? = some (some o')→o' = .box ty (cs.map .p):=fun o' h=>by rw [aZ] at h;cases h;rfl
 refine ⟨⟨fun j ty' n' cs' hm => ?_,fun j ty' cs' hm => ?_,fun j es cl hm => ?_,fun j j' o1 o2 b' hm hl hm' hl' hb1 hb2 => ?_,fun j o' b' hm hl hb' => ?_,hM.Fs,fun j o' b' hm hl hb' => ?_⟩,hle⟩
 ·by_cases e:j=k
  ·subst e;cases hnew _ hm
  ·rw [hι j e,hκ j e]
   rcases hM.row _ _ _ _ (hold j _ e hm) with h4 | ⟨b,arr,inf,q0,q1,q2,q3,q4,q5,q6,q7,q8⟩
   ·exact .inl h4
   ·exact .inr ⟨b,arr,inf,q0,q1,q2,q3,q4,q5,q6,fun j hj=>(q7 j hj).mono hle.F hle.fz,q8⟩
 ·by_cases e:j=k
  ·subst e
   cases hnew _ hm
   refine ⟨b,arr,hιs,hh,by simpa using hs,fun i hi => ?_,fun i hi=>h1 i (by simpa using hi)⟩
   rw [List.getElem_map]
   exact .p _ _ (hrep i (by simpa using hi))
  ·rw [hι j e]
   obtain ⟨b,arr,q0,q1,q2,q3,q4⟩:=hM.box _ _ _ (hold j _ e hm)
   exact ⟨b,arr,q0,q1,q2,fun j hj=>(q3 j hj).mono hle,q4⟩
 ·by_cases e:j=k
  ·subst e;cases hnew _ hm
  ·rw [hι j e]
   obtain ⟨b,arr,q0,q1,q2,q3⟩:=hM.mp _ _ _ (hold j _ e hm)
   refine ⟨b,arr,q0,q1,q2,fun j hj => ?_⟩
   obtain ⟨en,r1,r2,r3,r4⟩:=q3 j hj
   exact ⟨en,r1,r2,r3,r4.mono hle.F hle.fz⟩
 ·by_cases e:j=k
  ·by_cases e':j'=k
   ·rw [e,e']
   ·subst e
    rw [hιs] at hb1;cases hb1
    rw [hι j' e'] at hb2
    exact absurd hb2 (hnl _ _ (hold j' _ e' hm') hl')
  ·by_cases e':j'=k
   ·subst e'
    rw [hιs] at hb2;cases hb2
    rw [hι j e] at hb1
    exact absurd hb1 (hnl _ _ (hold j _ e hm) hl)
   ·rw [hι j e] at hb1;rw [hι j' e'] at hb2
    exact hM.inj _ _ _ _ _ (hold j _ e hm) hl (hold j' _ e' hm') hl' hb1 hb2
 ·by_cases e:j=k
  ·subst e
   rw [hιs] at hb';cases hb'
   exact hnF
  ·rw [hι j e] at hb'
   exact hM.nF _ _ _ (hold j _ e hm) hl hb'
 ·by_cases e:j=k
  ·subst e
   rw [hιs] at hb';cases hb'
   exact cD hh
  ·rw [hι j e] at hb'
   exact hM.lt _ _ _ (hold j _ e hm) hl hb'
end
end KV
end Go.Proofs
section
namespace Go.Proofs
open Go.RowKit Go.Lib Go.Shelf
namespace KV
abbrev Bk(dc:List (List Int)):={ k:Nat // k<dc.length }
def lP(dc:List (List Int))(k:Nat):List Int:=dc.getD k []
abbrev aJg(dc:List (List Int)):AV := .fn 187 [] [(.rp [(.sl dc.length (dc.flatten.map aA))] 0)]
theorem bTv{F:Nat→Prop}{w:World}{n:Int}{u:Value}(h:cN F w (aA n) u):u = .int .i64 n:=by unfold aA at h;cases h;rfl
theorem bJt{dc:List (List Int)}(hu:uni 6 dc){k j:Nat}{x:List Int}(hx:dc[k]? = some x)(hj:j<6):dc.flatten[k*6+j]? = some (x.getD j 0):=by
 have hk:k<dc.length:=(List.getElem?_eq_some_iff.1 hx).1
 induction dc generalizing k with
 | nil=>simp at hk
 | cons y r ih =>
  have hy:y.length=6:=hu y (List.mem_cons_self ..)
  rw [List.flatten_cons]
  cases k with
  | zero =>
   simp at hx;subst hx
   rw [Nat.zero_mul,Nat.zero_add,List.getElem?_append_left (by omega),List.getD_eq_getElem?_getD,List.getElem?_eq_getElem (by omega)];rfl
  | succ k =>
   rw [List.getElem?_append_right (by omega),hy,show (k+1)*6+j-6=k*6+j by omega]
   exact ih (fun z hz=>hu z (List.mem_cons_of_mem _ hz)) (by simpa using hx) (by simpa using hk)
theorem bSr{F:Nat→Prop}{w:World}{n:Nat}{cs:List PV}{v:Value}(h:cN F w (.sl n cs) v):∃ (p:Option Addr) (cap:Nat) (us:Nat→Value),v = .slice p n cap∧(∀ i,i<cs.length→∃ b o,p=some ⟨b,o,none⟩∧F b∧w.cell? ⟨b,o+i,none⟩=some (us i))∧∀ i (h:i<cs.length),cN F w cs[i] (us i):=by
 cases h with
 | sl _ _ p cap us g1 g2 g3 g4 g5=>exact ⟨p,cap,us,rfl,g3,g4⟩
theorem aYx(dc:List (List Int))(hu:uni 6 dc)(hl:dc.length≤1000):bOy Tryz.prog (aJg dc) (fun x:Bk dc => #[Value.int .i64 (x.1:Nat),.agg (vals6 (lP dc x.1))]) 187 dc.length (fun ys=>ys.map (fun x=>x.1)=bk dc.length 0):=fun C M w u hu0 hFs=>by
 cases hu0 with
 | fn _ _ _ us vs h1 h2 h3 h4 =>
  obtain rfl:us = #[]:=by simpa using h1
  have q0:=h4 0 (by simp)
  simp only [List.getElem_cons_zero] at q0
  obtain ⟨x0,rfl⟩:∃ x0,vs = #[x0]:=by
   have:vs.toList.length=1:=by simpa using h2
   match hv:vs.toList,this with
   | [x0],_=>exact ⟨x0,by rw [← hv]⟩
  change Rep C M w (.rp [.sl dc.length (dc.flatten.map aA)] 0) x0 at q0
  cases q0 with
  | rp _ _ b1 o1 u1 e1 e2 e3 =>
   have r0:=e2 0 (by simp)
   change cN C.F w (.sl dc.length (dc.flatten.map aA)) (u1 0) at r0
   have c0:=e1 0 (by simp)
   obtain ⟨p,cap,us2,hv,g3,g4⟩:=bSr r0
   rw [hv] at c0
   clear r0 hv
   ·have hlf:(dc.flatten.map aA).length=dc.length*6:=by rw [List.length_map,mH hu]
    refine ⟨_,fun pre=>True,rfl,fun l J Jx W hW hJ _ hY h0 => ?_⟩
    have hsame:∀ W',KpG C.F W W'→∀ b,C.F b→W'.heap[b]? = w.heap[b]? := fun W' hk b hb=>(hk.same b hb).trans (hW.block b (hFs b hb))
    obtain ⟨b2,o2,hp⟩:∃ b2 o2,dc.length=0∨p=some ⟨b2,o2,none⟩:=by
     by_cases hz:dc.length=0
     ·exact ⟨0,0,.inl hz⟩
     ·obtain ⟨b,o,h,_⟩:=g3 0 (by omega)
      exact ⟨b,o,.inr h⟩
    have hcell:∀ W',KpG C.F W W'→∀ k:Nat,k<dc.length→∃ a b c d e f,dc[k]? = some [a,b,c,d,e,f]∧W'.cell? ⟨b2,o2+k*6,none⟩=some (.int .i64 a)∧W'.cell? ⟨b2,o2+k*6+1,none⟩=some (.int .i64 b)∧W'.cell? ⟨b2,o2+k*6+2,none⟩=some (.int .i64 c)∧W'.cell? ⟨b2,o2+k*6+3,none⟩=some (.int .i64 d)∧W'.cell? ⟨b2,o2+k*6+4,none⟩=some (.int .i64 e)∧W'.cell? ⟨b2,o2+k*6+5,none⟩=some (.int .i64 f):=fun W' hk k hkn=>by
     obtain ⟨a,b,c,d,e,f,hx⟩:=at6 hu (i:=k) (by omega)
     have one:∀ j,j<6→W'.cell? ⟨b2,o2+(k*6+j),none⟩=some (.int .i64 ([a,b,c,d,e,f].getD j 0)):=fun j hj=>by
      have hi:k*6+j<(dc.flatten.map aA).length:=by omega
      obtain ⟨b',o',q1,q2,q3⟩:=g3 (k*6+j) hi
      rcases hp with hp | hp
      ·omega
      ·rw [hp] at q1
       cases q1
       rw [eL (hsame W' hk b2 q2),q3]
       have:=g4 (k*6+j) hi
       have he:(dc.flatten.map aA)[k*6+j]=aA ([a,b,c,d,e,f].getD j 0):=by
        have h5:=bJt hu hx hj
        rw [List.getElem_map]
        congr 1
        obtain ⟨_,h6⟩:=List.getElem?_eq_some_iff.1 h5
        exact h6
       rw [he] at this
       rw [bTv this]
     exact ⟨a,b,c,d,e,f,hx,one 0 (by omega),one 1 (by omega),one 2 (by omega),one 3 (by omega),one 4 (by omega),one 5 (by omega)⟩
    by_cases hz:dc.length=0
    ·-- nothing to yield: any address will do
     have h2:bk dc.length 0=[]:=by unfold bk;rw [hz];rfl
     rw [hz] at c0
     refine (aNt 2 l b1 o1 cap p (by omega) (J []) W ((eL (hsame W (KpG.refl _ _) b1 c0.1) _).trans c0.2) h0).mono ?_
     rintro e W' ⟨h5,h6⟩
     exact ⟨h5,.inl ⟨[],by rw [h2];rfl,h6⟩⟩
    ·have hp:p=some ⟨b2,o2,none⟩:=hp.resolve_left hz
     subst hp
     have:=aNs dc hl C.F 2 l b1 o1 b2 o2 cap (by omega) (fun ys W=>∃ zs:List (Bk dc),zs.map (fun x=>x.1)=ys∧J zs W) (fun ys W=>∃ zs:List (Bk dc),zs.map (fun x=>x.1)=ys∧Jx zs W)
      (fun pre k a b c d e f W1 hx hj hlt=>by
       obtain ⟨zs,rfl,hj⟩:=hj
       have hk:k<dc.length:=(List.getElem?_eq_some_iff.1 hx).1
       obtain ⟨fn,tmps,assign,body,hy,hR⟩:=hY zs ⟨k,hk⟩ W1 hj (by simpa [aNu] using hlt)
       have ev:vals6 (lP dc k) = #[.int .i64 a,.int .i64 b,.int .i64 c,.int .i64 d,.int .i64 e,.int .i64 f]:=by
        unfold lP;rw [List.getD_eq_getElem?_getD,hx];rfl
       dsimp only at hy
       rw [ev] at hy
       refine ⟨fn,tmps,assign,body,hy,hR.mono ?_⟩
       rintro e w3 (⟨rfl,hJ3,hK3⟩ | ⟨rfl,hx3⟩)
       ·exact .inl ⟨rfl,⟨zs++[⟨k,hk⟩],by rw [List.map_append];rfl,hJ3⟩,hK3⟩
       ·exact .inr ⟨rfl,⟨zs++[⟨k,hk⟩],by rw [List.map_append];rfl,hx3⟩⟩)
      W (fun ys A B row hs hg hr=>by obtain ⟨zs,h1,h2⟩:=hs;exact ⟨zs,h1,hJ _ _ _ _ h2 hg hr⟩) (fun b hb=>Nat.lt_of_lt_of_le (hFs b hb) hW.size)
      hcell
      (fun W' hk=>(eL (hsame W' hk b1 c0.1) _).trans c0.2)
      ⟨[],rfl,h0⟩
     refine this.mono ?_
     rintro e W' ⟨h5,h6⟩
     refine ⟨h5,?_⟩
     rcases h6 with ⟨ys,rfl,zs,h7,h8⟩ | ⟨pre,_,zs,h7,h8⟩
     ·exact .inl ⟨zs,h7,h8⟩
     ·exact .inr ⟨zs,trivial,h8⟩
end KV
end Go.Proofs
end
namespace Go.Proofs
namespace KV
section

theorem bJq{dl:Int}{v1 v2:Value}{mb:Nat}{es:List (Value × PV)}{cl:Nat}{x0 x1 x2 x3 x4 x5:Int}(h0:cJ .i64 es (.int .i64 x0))(h1:(dO es (.int .i64 x0))=true):gB Tryz.prog 5 (sub (cd Tryz.f82) [1,1,1,1,0,1,0,1,0,0]) ⟨fr 57 [(6,(.ptr 0 0)),(8,(.ptr 4 0))],[some (.box 130 [(.ptr 1 0)]),some (.box 176 [(.p (aA dl)),(.p (.v v1)),(.p (.v v2)),(.mp 2),(.p (.v (.map (some mb))))]),some (.mp es cl),some .dead,some (.box 44 [(.p (aA x0)),(.p (aA x1)),(.p (aA x2)),(.p (aA x3)),(.p (aA x4)),(.p (aA x5))])]⟩ .normal ⟨fr 57 [(6,(.ptr 0 0)),(8,(.ptr 4 0))],[some (.box 130 [(.ptr 1 0)]),some (.box 176 [(.p (aA dl)),(.p (.v v1)),(.p (.v v2)),(.mp 2),(.p (.v (.map (some mb))))]),some (.mp (nM es (.int .i64 x0) (dcE x0 x1 x2 x3 x4 x5)) cl),some .dead,some (.box 44 [(.p (aA x0)),(.p (aA x1)),(.p (aA x2)),(.p (aA x3)),(.p (aA x4)),(.p (aA x5))])]⟩:=by
 exact gB.fin (g:=⟨[0,1,2,3,4,5,7,9,10,11,12,13,14,15,16,17,18,19,20,21,22,23,24,25,26,27,28,29,30,31,32,33,34,35,36,37,38,39,40,41,42,43,44,45,46,47,48,49,50,51,52,53,54,55,56],[],[],[]⟩) (o:=[bT]) (l:=[_,_]) (by kernel_rfl) (gc h1 (gc h0 gn))
theorem bJr{dl:Int}{v1 v2:Value}{mb:Nat}{es:List (Value × PV)}{cl:Nat}{x0 x1 x2 x3 x4 x5:Int}(h0:cJ .i64 es (.int .i64 x0))(h1:(dO es (.int .i64 x0))=false):gB Tryz.prog 5 (sub (cd Tryz.f82) [1,1,1,1,0,1,0,1,0,0]) ⟨fr 57 [(6,(.ptr 0 0)),(8,(.ptr 4 0))],[some (.box 130 [(.ptr 1 0)]),some (.box 176 [(.p (aA dl)),(.p (.v v1)),(.p (.v v2)),(.mp 2),(.p (.v (.map (some mb))))]),some (.mp es cl),some .dead,some (.box 44 [(.p (aA x0)),(.p (aA x1)),(.p (aA x2)),(.p (aA x3)),(.p (aA x4)),(.p (aA x5))])]⟩ .normal ⟨fr 57 [(6,(.ptr 0 0)),(8,(.ptr 4 0))],[some (.box 130 [(.ptr 1 0)]),some (.box 176 [(.p (aA dl)),(.p (.v v1)),(.p (.v v2)),(.mp 2),(.p (.v (.map (some mb))))]),some (.mp (es++[((.int .i64 x0),(dcE x0 x1 x2 x3 x4 x5))]) (cl+1)),some .dead,some (.box 44 [(.p (aA x0)),(.p (aA x1)),(.p (aA x2)),(.p (aA x3)),(.p (aA x4)),(.p (aA x5))])]⟩:=by
 exact gB.fin (g:=⟨[0,1,2,3,4,5,7,9,10,11,12,13,14,15,16,17,18,19,20,21,22,23,24,25,26,27,28,29,30,31,32,33,34,35,36,37,38,39,40,41,42,43,44,45,46,47,48,49,50,51,52,53,54,55,56],[],[],[]⟩) (o:=[bF]) (l:=[_,_]) (by kernel_rfl) (gc h1 (gc h0 gn))
theorem bJs{dl:Int}{v1 v2:Value}{mb:Nat}{es:List (Value × PV)}{cl:Nat}{x0 x1 x2 x3 x4 x5:Int}:gB Tryz.prog 5 (sub (cd Tryz.f82) [1,1,1,1,0,1,0,1,0,1,0]) ⟨fr 57 [(6,(.ptr 0 0)),(8,(.ptr 4 0))],[some (.box 130 [(.ptr 1 0)]),some (.box 176 [(.p (aA dl)),(.p (.v v1)),(.p (.v v2)),(.mp 2),(.p (.v (.map (some mb))))]),some (.mp es cl),some .dead,some (.box 44 [(.p (aA x0)),(.p (aA x1)),(.p (aA x2)),(.p (aA x3)),(.p (aA x4)),(.p (aA x5))])]⟩ .normal ⟨fr 57 [(6,(.ptr 0 0)),(8,(.ptr 4 0)),(39,(.p (blP (decide (x5 > (0:Int))))))],[some (.box 130 [(.ptr 1 0)]),some (.box 176 [(.p (aA dl)),(.p (.v v1)),(.p (.v v2)),(.mp 2),(.p (.v (.map (some mb))))]),some (.mp es cl),some .dead,some (.box 44 [(.p (aA x0)),(.p (aA x1)),(.p (aA x2)),(.p (aA x3)),(.p (aA x4)),(.p (aA x5))])]⟩:=by
 exact gB.fin (g:=⟨[0,1,2,3,4,5,7,9,10,11,12,13,14,15,16,17,18,19,20,21,22,23,24,25,26,27,28,29,30,31,32,33,34,35,36,37,38,40,41,42,43,44,45,46,47,48,49,50,51,52,53,54,55,56],[],[],[]⟩) (o:=[]) (l:=[]) (by kernel_rfl) (gn)
end
end KV
end Go.Proofs
section
namespace Go.Proofs
open Go.RowKit
namespace KV
open Go.ChangeMaps (setBlock)
open Go.Maps Go.MapKept

section
variable {P:Program} {o:Oper} {a:Act} {W W':World}
theorem bEj{x:Operand}{p:Addr}(ho:o.op = .nilCheck x)(hv:a.eval x = .pointer (some p)):(execOp a.eval o).run P W = .ok (.value (.pointer (some p))) W:=by
 unfold execOp;rw [ho];simp [hv]
theorem tW{t:TypeId}{x:Operand}{f:Nat}{v r:Value}(ho:o.op = .fieldAddr t x f)(hx:a.eval x=v)(hr:(Instr.fieldAt t v f).run P W = .ok r W):(execOp a.eval o).run P W = .ok (.value r) W:=by
 unfold execOp;rw [ho];simp [hx,hr,Result.andThen]
theorem tX{t:TypeId}{fs:Array Field}{f:Nat}{fl:Field}{j:TI}(hd:P.underlying t=some (.struct fs))(hf:fs[f]? = some fl)(hj:cM P fl.type=some j)(h0:j.size≠0)(b off:Nat) :
  (Instr.fieldAt t (.pointer (some ⟨b,off,none⟩)) f).run P W = .ok (.pointer (some ⟨b,off+fl.offset,none⟩)) W:=by
 unfold Instr.fieldAt
 rw [Sem.run_bind,run_underlying hd,Result.andThen_ok]
 simp only [hf]
 rw [Sem.run_bind]
 show ((pure (⟨b,off,none⟩:Addr):Sem Addr).run P W).andThen _=_
 rw [Sem.run_pure,Result.andThen_ok,Sem.run_bind,pH hj h0,Result.andThen_ok]
 rfl
theorem aYw{t:Nat}{i:TI}(hi:cM P t=some i)(ha:i.agg=true){b:Nat}{l:List Value}{ty:TypeId}{fr:Nat × Nat}(hl:l.length=i.size)(h:W.heap[b]? = some (.cells l.toArray ty fr)):(Instr.loadAt t (.pointer (some ⟨b,0,none⟩))).run P W = .ok (.agg l.toArray) W:=by
 have:=kJ (P:=P) (w:=W) hi ha (b:=b) (o:=0) (f:=fun j=>l.getD j undef) (fun j hj=>by
  rw [Nat.zero_add,bZ h (by simpa using (by omega:j<l.length))]
  simp [List.getD_eq_getElem?_getD,List.getElem?_eq_getElem (show j<l.length by omega),Array.getD_eq_getD_getElem?])
 have e:((List.range i.size).map fun j=>l.getD j undef).toArray=l.toArray:=by
  rw [← hl]
  congr 1
  apply List.ext_getElem
  ·simp
  ·intro j h1 h2
   simp [List.getD_eq_getElem?_getD,List.getElem?_eq_getElem h2]
 rw [e] at this
 unfold Instr.loadAt Instr.sureAddr
 simpa using this
end
theorem fill6{x:List Int}(hx:x.length=6):Instr.fill (fun i=>some (i*6,6)) ((Array.range (1*6)).map (zD6.cells[· % zD6.cells.size]!)) [(0,.agg (vsL x).toArray)]=some (vsL x).toArray:=by
 obtain ⟨a,b,c,d,e,f,rfl⟩:=len6 hx
 kernel_rfl
theorem tiq{P:Program}{t:Nat}{b:Bool}{n:Nat}(h:(cM P t).map (fun i=>(i.agg,i.size))=some (b,n)):∃ i,cM P t=some i∧i.agg=b∧i.size=n:=by
 cases h2:cM P t with
 | none=>rw [h2] at h;simp at h
 | some i=>rw [h2] at h;simp at h;exact ⟨i,rfl,h.1,h.2⟩
theorem tq130:(cM Tryz.prog 130).map (fun i=>(i.agg,i.size))=some (false,1):=by kernel_rfl
theorem tq174:(cM Tryz.prog 174).map (fun i=>(i.agg,i.size))=some (false,1):=by kernel_rfl
theorem tq3:(cM Tryz.prog 3).map (fun i=>(i.agg,i.size))=some (false,1):=by kernel_rfl
theorem tq44:(cM Tryz.prog 44).map (fun i=>(i.agg,i.size))=some (true,6):=by kernel_rfl
theorem info44z:(Tryz.prog.info? 44).map (fun i=>(i.zero,i.size,i.bytes))=some (some zD6,6,48):=by kernel_rfl

structure bJo (mb:Nat) (es:Array MapEntry) (cl:Nat) (L:List Ent) (k:Int) (x:List Int) (W W':World) (es':Array MapEntry) (cl':Nat) (e:Ent):Prop where
 ok:kR mb es' (nJ L e)
 ky:e.k=k
 li:e.l=nI L k++[x]
 born:(∀ y∈es.toList,y.born<cl)→∀ y∈es'.toList,y.born<cl'
 has:∀ p∈gT mb es' cl' (nJ L e),W'.heap[p.1]? = some p.2∧((∃ p0∈gT mb es cl L,p0.1=p.1)∨W.heap.size≤p.1)
 size:W.heap.size≤W'.heap.size
 os:W'.os=W.os
 tape:W'.tape=W.tape
 out:W'.output=W.output
 keep:∀ b,b<W.heap.size→(∀ q∈gT mb es cl L,q.1≠b)→W'.heap[b]? = W.heap[b]?

theorem bJp:∃ l:List Oper,sub (cd Tryz.f82) [1,1,1,1,0,1,0,1,0,1,1,0] = .region 9 l.toArray true∧aFv l [0,1,2,3,4,5,6,7,8,9,10,11,12,13] 14 15 16=true∧l.all wS=true∧l.map (fun o=>(o.op,o.dst))=[(.load 130 (.tmp 6),some 40),(.nilCheck (.tmp 40),some 41),(.fieldAddr 176 (.tmp 41) 2,some 42),(.load 174 (.tmp 42),some 43),(.fieldAddr 44 (.tmp 8) 5,some 44),(.load 3 (.tmp 44),some 45),(.load 130 (.tmp 6),some 46),(.nilCheck (.tmp 46),some 47),(.fieldAddr 176 (.tmp 47) 2,some 48),(.load 174 (.tmp 48),some 49),(.fieldAddr 44 (.tmp 8) 5,some 50),(.load 3 (.tmp 50),some 51),(.lookup 174 (.tmp 49) (.tmp 51) false,some 52),(.load 44 (.tmp 8),some 53),(.buildSlice 24 1 #[(0,.tmp 53)],some 54),(.call { callee := .builtin .append,args := #[.tmp 52,.tmp 54],argTypes := #[24,24] },some 55),(.mapUpdate 174 (.tmp 43) (.tmp 45) (.tmp 55),none)] :=
 ⟨match sub (cd Tryz.f82) [1,1,1,1,0,1,0,1,0,1,1,0] with | .region _ ops _=>ops.toList | _=>[],by kernel_rfl,by kernel_rfl,by kernel_rfl,by kernel_rfl⟩
set_option maxHeartbeats 4000000 in
theorem ask9{F:Fence}{n:Nat}(hall:∀ f,F.fn f){a:Act}{W:World}{b6 bd b8 mb cl:Nat}{es:Array MapEntry}{L:List Ent}{x:List Int}(hx6:x.length=6){a6 ad:Array Value}{t6 td:TypeId}
  (hsz:a.tmps.size=57) (v6:a.tmps.getD 6 undef = .pointer (some ⟨b6,0,none⟩)) (v8:a.tmps.getD 8 undef = .pointer (some ⟨b8,0,none⟩))
  (h6:W.heap[b6]? = some (.cells a6 t6 (0,0))) (q6:0<a6.size∧a6.getD 0 undef = .pointer (some ⟨bd,0,none⟩)) (hd:W.heap[bd]? = some (.cells ad td (0,0))) (qd:4<ad.size∧ad.getD 4 undef = .map (some mb)) (h8:W.heap[b8]? = some (.cells (vsL x).toArray 44 (0,0)))
  (hM:kR mb es L) (hR:∀ p∈gT mb es cl L,W.heap[p.1]? = some p.2) (hl:∀ e∈L,e.l.length≤1000) (hne:∀ p∈gT mb es cl L,p.1≠b6∧p.1≠bd∧p.1≠b8) (hk:(Lit.int .i64 (dAb x)).wf=true) :
  (sub (cd Tryz.f82) [1,1,1,1,0,1,0,1,0,1,1,0]).wpIn F n Tryz.prog (fun e a' W'=>e = .normal∧∃ es' cl' e,bJo mb es cl L (dAb x) x W W' es' cl' e) a W:=by
 obtain ⟨l,hc,hB,hcalm,hops⟩:=bJp
 rw [hc]
 obtain ⟨o0,l0,rfl,h0,hops⟩:=List.map_eq_cons_iff.1 hops
 obtain ⟨o1,l1,rfl,h1,hops⟩:=List.map_eq_cons_iff.1 hops
 obtain ⟨o2,l2,rfl,h2,hops⟩:=List.map_eq_cons_iff.1 hops
 obtain ⟨o3,l3,rfl,h3,hops⟩:=List.map_eq_cons_iff.1 hops
 obtain ⟨o4,l4,rfl,h4,hops⟩:=List.map_eq_cons_iff.1 hops
 obtain ⟨o5,l5,rfl,h5,hops⟩:=List.map_eq_cons_iff.1 hops
 obtain ⟨o6,l6,rfl,h6',hops⟩:=List.map_eq_cons_iff.1 hops
 obtain ⟨o7,l7,rfl,h7,hops⟩:=List.map_eq_cons_iff.1 hops
 obtain ⟨o8,l8,rfl,h8',hops⟩:=List.map_eq_cons_iff.1 hops
 obtain ⟨o9,l9,rfl,h9,hops⟩:=List.map_eq_cons_iff.1 hops
 obtain ⟨o10,l10,rfl,h10,hops⟩:=List.map_eq_cons_iff.1 hops
 obtain ⟨o11,l11,rfl,h11,hops⟩:=List.map_eq_cons_iff.1 hops
 obtain ⟨o12,l12,rfl,h12,hops⟩:=List.map_eq_cons_iff.1 hops
 obtain ⟨o13,l13,rfl,h13,hops⟩:=List.map_eq_cons_iff.1 hops
 obtain ⟨o14,l14,rfl,h14,hops⟩:=List.map_eq_cons_iff.1 hops
 obtain ⟨o15,l15,rfl,h15,hops⟩:=List.map_eq_cons_iff.1 hops
 obtain ⟨o16,l16,rfl,h16,hops⟩:=List.map_eq_cons_iff.1 hops
 obtain rfl:=List.map_eq_nil_iff.1 hops
 obtain ⟨q0,d0⟩:=Prod.mk.inj h0
 obtain ⟨q1,d1⟩:=Prod.mk.inj h1
 obtain ⟨q2,d2⟩:=Prod.mk.inj h2
 obtain ⟨q3,d3⟩:=Prod.mk.inj h3
 obtain ⟨q4,d4⟩:=Prod.mk.inj h4
 obtain ⟨q5,d5⟩:=Prod.mk.inj h5
 obtain ⟨q6',d6⟩:=Prod.mk.inj h6'
 obtain ⟨q7,d7⟩:=Prod.mk.inj h7
 obtain ⟨q8,d8⟩:=Prod.mk.inj h8'
 obtain ⟨q9,d9⟩:=Prod.mk.inj h9
 obtain ⟨q10,d10⟩:=Prod.mk.inj h10
 obtain ⟨q11,d11⟩:=Prod.mk.inj h11
 obtain ⟨q12,d12⟩:=Prod.mk.inj h12
 obtain ⟨q13,d13⟩:=Prod.mk.inj h13
 obtain ⟨q14,d14⟩:=Prod.mk.inj h14
 obtain ⟨q15,d15⟩:=Prod.mk.inj h15
 obtain ⟨q16,d16⟩:=Prod.mk.inj h16
 clear h0 h1 h2 h3 h4 h5 h6' h7 h8' h9 h10 h11 h12 h13 h14 h15 h16
 have V6:a.eval (.tmp 6) = .pointer (some ⟨b6,0,none⟩):=v6
 have V8:a.eval (.tmp 8) = .pointer (some ⟨b8,0,none⟩):=v8
 obtain ⟨i130,t130,a130,_⟩:=tiq tq130
 obtain ⟨i174,t174,a174,s174⟩:=tiq tq174
 obtain ⟨i3,t3,a3,s3⟩:=tiq tq3
 obtain ⟨i44,t44,a44,s44⟩:=tiq tq44
 have fd:∀ U:World,(Instr.fieldAt 176 (.pointer (some ⟨bd,0,none⟩)) 2).run Tryz.prog U = .ok (.pointer (some ⟨bd,4,none⟩)) U:=fun U =>
  (tX (P:=Tryz.prog) (W:=U) Tryz.underlying176 (f:=2) rfl (by exact t174) (by rw [s174];decide) bd 0)
 have f8:∀ U:World,(Instr.fieldAt 44 (.pointer (some ⟨b8,0,none⟩)) 5).run Tryz.prog U = .ok (.pointer (some ⟨b8,5,none⟩)) U:=fun U =>
  (tX (P:=Tryz.prog) (W:=U) Tryz.underlying44 (f:=5) rfl (by exact t3) (by rw [s3];decide) b8 0)
 obtain ⟨S,hSdef⟩:∃ S:World→Prop,S=fun U=>U.heap[b6]? = W.heap[b6]? ∧ U.heap[bd]? = W.heap[bd]? ∧ U.heap[b8]? = W.heap[b8]? ∧ U.heap[mb]? = W.heap[mb]? := ⟨_,rfl⟩
 have hmb:W.heap[mb]? = some (.map es cl):=hR (mb,.map es cl) (by simp [gT])
 have r6:∀ U,S U→(Instr.loadAt 130 (.pointer (some ⟨b6,0,none⟩))).run Tryz.prog U = .ok (.pointer (some ⟨bd,0,none⟩)) U:=fun U hU=>by
  rw [hSdef] at hU
  refine vL t130 a130 ?_
  rw [eL hU.1,bZ h6 q6.1]
  have:=q6.2
  simp only [Array.getD_eq_getD_getElem?,Array.getElem?_eq_getElem q6.1,Option.getD_some] at this ⊢
  rw [this]
 have rd:∀ U,S U→(Instr.loadAt 174 (.pointer (some ⟨bd,4,none⟩))).run Tryz.prog U = .ok (.map (some mb)) U:=fun U hU=>by
  rw [hSdef] at hU
  refine vL t174 a174 ?_
  rw [eL hU.2.1,bZ hd qd.1]
  have:=qd.2
  simp only [Array.getD_eq_getD_getElem?,Array.getElem?_eq_getElem qd.1,Option.getD_some] at this ⊢
  rw [this]
 have x5:(vsL x)[5]? = some (.int .i64 (dAb x)):=by
  unfold vsL
  rw [List.getElem?_map,List.getElem?_eq_getElem (by omega)]
  simp [dAb,List.getD_eq_getElem?_getD,List.getElem?_eq_getElem (show 5<x.length by omega)]
 have r5:∀ U,S U→(Instr.loadAt 3 (.pointer (some ⟨b8,5,none⟩))).run Tryz.prog U = .ok (.int .i64 (dAb x)) U:=fun U hU=>by
  rw [hSdef] at hU
  refine vL t3 a3 ?_
  have hs5:5<(vsL x).length:=by simp [vsL,hx6]
  rw [eL hU.2.2.1,bZ h8 (j:=5) (by simpa using hs5)]
  simp only [List.getElem?_eq_getElem hs5,Option.some.injEq] at x5
  simp [Array.getD_eq_getD_getElem?,List.getElem?_eq_getElem hs5,x5]
 have r8:∀ U,S U→(Instr.loadAt 44 (.pointer (some ⟨b8,0,none⟩))).run Tryz.prog U = .ok (.agg (vsL x).toArray) U:=fun U hU=>by
  rw [hSdef] at hU
  exact aYw t44 a44 (by simp [vsL,hx6,s44]) (hU.2.2.1.trans h8)
 have rz:∀ U:World,(zeroValue 24).run Tryz.prog U = .ok (.slice none 0 0) U:=fun U=>rfl
 have rl:∀ U,S U→(Instr.lookup 174 (.map (some mb)) (.int .i64 (dAb x)) false).run Tryz.prog U = .ok (oQ L (dAb x)) U:=fun U hU=>by
  rw [hSdef] at hU
  exact bEk Tryz.underlying174 Tryz.underlying3 (rz U) (hU.2.2.2.trans hmb) hM hk
 obtain ⟨W1,hW1⟩:∃ W1:World,W1={ W with drawn:=W.drawn+1 }:=⟨_,rfl⟩
 have hh1:W1.heap=W.heap:=by rw [hW1]
 have hs:Sim Tryz.prog ((⟨fun _=>none,fun _=>0,fun _=>False,[]⟩:Cx).with (gT mb es cl L++[])) [] { W1 with heap := #[] } ⟨List.replicate 57 .any,[]⟩ { tmps:=a.tmps,defers:=[] } W1:=by
  refine ⟨⟨fun _=>none,fun _=>0,fun _=>False,[]⟩,⟨by simpa using hsz,fun j hj=>by rw [List.getElem_replicate];exact .any _⟩,⟨fun _ _ _ _ h=>by simp at h,fun _ _ _ h=>by simp at h,fun _ _ _ h=>by simp at h,fun _ _ _ _ _ h=>by simp at h,fun _ _ _ h=>by simp at h,fun _ h=>h.elim,fun _ _ _ h=>by simp at h⟩,
   ⟨rfl,rfl,rfl,Nat.zero_le _,fun b hb=>by simp at hb,fun _ _ h=>by simp at h,fun _ _ h=>by simp at h,fun _ _ h=>by simp at h,fun _ _ _ h=>by simp at h,fun _ h=>h,fun _ h=>h.elim⟩,?_⟩
  refine ⟨⟨[],rfl,.nil,fun D h=>by cases h⟩,fun p hp => ?_,.no (fun _ _ h=>by simp at h)⟩
  have hp':p∈gT mb es cl L:=by have h2:p∈gT mb es cl L++[]:=hp;rwa [List.append_nil] at h2
  refine ⟨by rw [hh1];exact hR p hp',Nat.zero_le _,?_,fun h=>h,fun _ _ h=>by simp at h⟩
  rcases dA.1 hp' with rfl | ⟨y,_,rfl⟩ <;> (intro h;cases h)
 obtain ⟨v2,w2,es',cl',e,hrun,hkeep,hmb2,⟨hsize,hborn,hold⟩,hup,hM',hek,hel,_,hsim⟩:=bJy (P:=Tryz.prog) (C0:=⟨fun _=>none,fun _=>0,fun _=>False,[]⟩) (kt:=3) (S22:=24) (ty:=o15.type) (k:=dAb x) (x:=x) hx6 Tryz.underlying174 Tryz.underlying3 Tryz.underlying24 info44z hs (fun p _ q hq=>by cases hq) hM hk hl
 have hw2:S w2:=by
  rw [hSdef]
  have hlt:∀ b o,W.heap[b]? = some o→b<W1.heap.size:=fun b o h=>by rw [hh1];exact cD h
  refine ⟨(hkeep b6 (hlt _ _ h6) fun q hq=>(hne q hq).1).trans (by rw [hh1]),(hkeep bd (hlt _ _ hd) fun q hq=>(hne q hq).2.1).trans (by rw [hh1]),(hkeep b8 (hlt _ _ h8) fun q hq=>(hne q hq).2.2).trans (by rw [hh1]),hmb2.trans (by rw [hh1])⟩
 have hS1:S { W with drawn:=W.drawn+1 }:=by rw [hSdef];exact ⟨rfl,rfl,rfl,rfl⟩
 refine aYy (P:=Tryz.prog) (o1:=o14) (o2:=o15) (o3:=o16) (S:=S) hall (fun ⟨_,_,h,_⟩=>by cases h) hcalm [0,1,2,3,4,5,6,7,8,9,10,11,12,13] 14 15 16 mixed hB rfl rfl rfl (fun c a w h=>by cases h.1) hS1
  [.pointer (some ⟨bd,0,none⟩),.pointer (some ⟨bd,0,none⟩),.pointer (some ⟨bd,4,none⟩),.map (some mb),.pointer (some ⟨b8,5,none⟩),.int .i64 (dAb x),.pointer (some ⟨bd,0,none⟩),.pointer (some ⟨bd,0,none⟩),.pointer (some ⟨bd,4,none⟩),.map (some mb),.pointer (some ⟨b8,5,none⟩),.int .i64 (dAb x),oQ L (dAb x),.agg (vsL x).toArray] rfl ?_ ?_
 ·refine ⟨fun U hU=>oI q0 V6 (r6 U hU),fun U hU=>bEj q1 (by simp [bS,bM,dH,hsz,V6,V8,d0,d1,d2,d3,d4,d5,d6,d7,d8,d9,d10,d11,d12]),fun U hU=>tW q2 (by simp [bS,bM,dH,hsz,V6,V8,d0,d1,d2,d3,d4,d5,d6,d7,d8,d9,d10,d11,d12]) (fd U),
   fun U hU=>oI q3 (by simp [bS,bM,dH,hsz,V6,V8,d0,d1,d2,d3,d4,d5,d6,d7,d8,d9,d10,d11,d12]) (rd U hU),fun U hU=>tW q4 (by simp [bS,bM,dH,hsz,V6,V8,d0,d1,d2,d3,d4,d5,d6,d7,d8,d9,d10,d11,d12]) (f8 U),fun U hU=>oI q5 (by simp [bS,bM,dH,hsz,V6,V8,d0,d1,d2,d3,d4,d5,d6,d7,d8,d9,d10,d11,d12]) (r5 U hU),
   fun U hU=>oI q6' (by simp [bS,bM,dH,hsz,V6,V8,d0,d1,d2,d3,d4,d5,d6,d7,d8,d9,d10,d11,d12]) (r6 U hU),fun U hU=>bEj q7 (by simp [bS,bM,dH,hsz,V6,V8,d0,d1,d2,d3,d4,d5,d6,d7,d8,d9,d10,d11,d12]),fun U hU=>tW q8 (by simp [bS,bM,dH,hsz,V6,V8,d0,d1,d2,d3,d4,d5,d6,d7,d8,d9,d10,d11,d12]) (fd U),
   fun U hU=>oI q9 (by simp [bS,bM,dH,hsz,V6,V8,d0,d1,d2,d3,d4,d5,d6,d7,d8,d9,d10,d11,d12]) (rd U hU),fun U hU=>tW q10 (by simp [bS,bM,dH,hsz,V6,V8,d0,d1,d2,d3,d4,d5,d6,d7,d8,d9,d10,d11,d12]) (f8 U),fun U hU=>oI q11 (by simp [bS,bM,dH,hsz,V6,V8,d0,d1,d2,d3,d4,d5,d6,d7,d8,d9,d10,d11,d12]) (r5 U hU),
   fun U hU=>aZa q12 (by simp [bS,bM,dH,hsz,V6,V8,d0,d1,d2,d3,d4,d5,d6,d7,d8,d9,d10,d11,d12]) (by simp [bS,bM,dH,hsz,V6,V8,d0,d1,d2,d3,d4,d5,d6,d7,d8,d9,d10,d11,d12]) (rl U hU),
   fun U hU=>oI q13 (by simp [bS,bM,dH,hsz,V6,V8,d0,d1,d2,d3,d4,d5,d6,d7,d8,d9,d10,d11,d12]) (r8 U hU),trivial⟩
 ·intro a' ha'
  have e43:a'.eval (.tmp 43) = .map (some mb):=by rw [ha'];simp [wT,bS,bM,dH,hsz,V6,V8,d0,d1,d2,d3,d4,d5,d6,d7,d8,d9,d10,d11,d12,d13]
  have e45:a'.eval (.tmp 45) = .int .i64 (dAb x):=by rw [ha'];simp [wT,bS,bM,dH,hsz,V6,V8,d0,d1,d2,d3,d4,d5,d6,d7,d8,d9,d10,d11,d12,d13]
  have e52:a'.eval (.tmp 52)=oQ L (dAb x):=by rw [ha'];simp [wT,bS,bM,dH,hsz,V6,V8,d0,d1,d2,d3,d4,d5,d6,d7,d8,d9,d10,d11,d12,d13]
  have e53:a'.eval (.tmp 53) = .agg (vsL x).toArray:=by rw [ha'];simp [wT,bS,bM,dH,hsz,V6,V8,d0,d1,d2,d3,d4,d5,d6,d7,d8,d9,d10,d11,d12,d13]
  have hsz':a'.tmps.size=57:=by rw [ha'];simp [wT,dH,hsz,d0,d1,d2,d3,d4,d5,d6,d7,d8,d9,d10,d11,d12,d13]
  obtain ⟨inf,hi,hz,hz1,hz2⟩:=info_parts info44z
  have hvl:(vsL x).length=6:=by simp [vsL,hx6]
  have hbld:∀ U:World,(Instr.buildSlice 24 1 #[(0,.agg (vsL x).toArray)]).run Tryz.prog U = .ok (.slice (some ⟨U.heap.size,0,none⟩) 1 1) (U.alloc (.cells (vsL x).toArray 44)):=fun U =>
   yV (P:=Tryz.prog) 24 44 inf 1 #[(0,.agg (vsL x).toArray)] (vsL x).toArray zD6 Tryz.underlying24 hi hz (by rw [hz1];decide) (by rw [hz1];exact fill6 hx6)
  have hW1':({ W with drawn:=W.drawn+1 }:World)=W1:=hW1.symm
  rw [hW1'] at hS1 ⊢
  refine ⟨_,_,v2,w2,setBlock w2 mb (.map es' cl'),aZb q14 e53 (hbld _),?_,aZc q15 (by rw [d14,bS rfl];exact e52) (by rw [d14,bM (by omega)]) hrun,hw2,aZd q16 (by rw [d14,d15,bS rfl,bS rfl];exact e43) (by rw [d14,d15,bS rfl,bS rfl];exact e45) (by rw [d14,d15,bM (by rw [dH];omega)]) hup,?_⟩
  ·obtain ⟨n1,n2,n3⟩:=iV W1 (.cells (vsL x).toArray 44)
   rw [hSdef] at hS1 ⊢
   have hlt:∀ b o,W.heap[b]? = some o→b<W1.heap.size:=fun b o h=>by rw [hh1];exact cD h
   exact ⟨(n3 b6 (hlt _ _ h6)).trans hS1.1,(n3 bd (hlt _ _ hd)).trans hS1.2.1,(n3 b8 (hlt _ _ h8)).trans hS1.2.2.1,(n3 mb (hlt _ _ hmb)).trans hS1.2.2.2⟩
  ·refine ⟨rfl,es',cl',e,⟨hM',hek,hel,hborn,fun p hp => ?_,?_,?_,?_,?_,fun b hb hno => ?_⟩⟩
   ·refine ⟨hsim.has p (List.mem_append_left _ hp),?_⟩
    rcases hold p hp with h | h
    ·exact .inl h
    ·right;rw [hh1] at h;exact h
   ·unfold setBlock;simp only [Array.size_setIfInBounds];rw [hh1] at hsize;exact hsize
   ·obtain ⟨C,_,_,hF,_⟩:=hsim
    exact hF.os.trans (by rw [hW1])
   ·obtain ⟨C,_,_,hF,_⟩:=hsim
    exact hF.tape.trans (by rw [hW1])
   ·obtain ⟨C,_,_,hF,_⟩:=hsim
    exact hF.out.trans (by rw [hW1])
   ·have hbm:b≠mb:=fun h=>hno (mb,.map es cl) (by simp [gT]) h.symm
    have:(setBlock w2 mb (.map es' cl')).heap[b]? = w2.heap[b]? := by
     unfold setBlock
     simp only [Array.getElem?_setIfInBounds]
     rw [if_neg (Ne.symm hbm)]
    rw [this,hkeep b (by rw [hh1];exact hb) hno,hh1]
end KV
end Go.Proofs
end
section
namespace Go.Proofs
open Go.RowKit
namespace KV
open Go.ChangeMaps (setBlock)

mutual
def ffP:PV→Bool
 | .v _=>true
 | .agg cs=>aYv cs
 | _=>false
def aYv:List PV→Bool
 | []=>true
 | x::r=>ffP x && aYv r
end
theorem aQi:∀ {l:List PV},aYv l=true→∀ (i:Nat) (h:i<l.length),ffP l[i]=true
 | [],_,i,h=>by simp at h
 | x::r,hl,i,h=>by
  rw [aYv,Bool.and_eq_true] at hl
  cases i with
  | zero=>exact hl.1
  | succ i=>exact aQi hl.2 i (by simpa using h)
theorem aJd{α:Type}(g:α→PV)(h:∀ x,ffP (g x)=true):∀ l:List α,aYv (l.map g)=true
 | []=>rfl
 | x::r=>by rw [List.map_cons,aYv,h,aJd g h r];rfl
theorem cN.anyF{F F':Nat→Prop}{w w':World}{x:PV}{u:Value}(h:cN F w x u)(hm:ffP x=true):cN F' w' x u:=by
 induction h with
 | v x=>exact .v x
 | agg cs vs h0 h1 _ ih =>
  rw [ffP] at hm
  exact .agg cs vs h0 h1 fun i hi=>ih i hi (aQi hm i hi)
 | sl=>simp [ffP] at hm
 | mp=>simp [ffP] at hm
 | rp=>simp [ffP] at hm

def qU(x:List Int):PV := .agg (x.map aA)
def jW(es:List (Value × PV))(x:List Int):List (Value × PV):=if dO es (.int .i64 (dN x)) then nM es (.int .i64 (dN x)) (qU x) else es++[(.int .i64 (dN x),qU x)]
def atF(q:List (List Int)):List (Value × PV):=q.foldl jW []
theorem aJe(q:List (List Int))(x:List Int):atF (q++[x])=jW (atF q) x:=by unfold atF;rw [List.foldl_append];rfl
structure vJ (es:List (Value × PV)):Prop where
 ky:∀ e∈es,aHd .i64 e.1=true
 nd:(es.map fun e=>iA e.1).Nodup
 nm:∀ e∈es,ffP e.2=true
theorem aAh{kv:Value}{x:PV}:∀ (es:List (Value × PV)),((nM es kv x).map fun e=>iA e.1)=es.map fun e=>iA e.1
 | []=>rfl
 | e::r=>by
  unfold nM
  split
  ·rename_i h
   rw [List.map_cons,List.map_cons,h]
  ·rw [List.map_cons,List.map_cons,aAh r]
theorem aAi{kv:Value}{x:PV}{e:Value × PV}:∀ {es:List (Value × PV)},e∈nM es kv x→e∈es∨e=(kv,x)
 | [],h=>by unfold nM at h;cases h
 | a::r,h=>by
  unfold nM at h
  split at h
  ·rcases List.mem_cons.1 h with h | h
   ·exact .inr h
   ·exact .inl (List.mem_cons_of_mem _ h)
  ·rcases List.mem_cons.1 h with h | h
   ·exact .inl (h ▸ List.mem_cons_self ..)
   ·rcases aAi h with h | h
    ·exact .inl (List.mem_cons_of_mem _ h)
    ·exact .inr h
theorem aQj(x:List Int):ffP (qU x)=true:=by unfold qU;rw [ffP];exact aJd _ (fun _=>rfl) _
theorem vJ.step{es:List (Value × PV)}(h:vJ es){x:List Int}(hx : -1000000≤dN x∧dN x≤1000000):vJ (jW es x):=by
 unfold jW
 cases hb:dO es (.int .i64 (dN x)) with
 | true =>
  rw [if_pos rfl]
  refine ⟨fun e he => ?_,by rw [aAh];exact h.nd,fun e he => ?_⟩
  ·rcases aAi he with h1 | rfl
   ·exact h.ky e h1
   ·exact mK hx
  ·rcases aAi he with h1 | rfl
   ·exact h.nm e h1
   ·exact aQj x
 | false =>
  rw [if_neg (by simp)]
  refine ⟨fun e he => ?_,?_,fun e he => ?_⟩
  ·rcases List.mem_append.1 he with h1 | h1
   ·exact h.ky e h1
   ·rw [List.mem_singleton.1 h1];exact mK hx
  ·rw [List.map_append,List.nodup_append]
   refine ⟨h.nd,by simp,fun a ha b hb' hab => ?_⟩
   simp at hb'
   subst hb'
   obtain ⟨e,he,rfl⟩:=List.mem_map.1 ha
   have:=(List.any_eq_false.1 (show es.any _=false from hb)) e he
   exact this (decide_eq_true hab)
  ·rcases List.mem_append.1 he with h1 | h1
   ·exact h.nm e h1
   ·rw [List.mem_singleton.1 h1];exact aQj x
theorem bEg{q:List (List Int)}(hq:∀ x∈q,-1000000≤dN x∧dN x≤1000000):vJ (atF q):=by
 have key:∀ (q:List (List Int)) (es:List (Value × PV)),(∀ x∈q,-1000000≤dN x∧dN x≤1000000)→vJ es→vJ (q.foldl jW es):=by
  intro q
  induction q with
  | nil=>intro es _ h;exact h
  | cons x q ih=>intro es hq h;exact ih _ (fun y hy=>hq y (List.mem_cons_of_mem _ hy)) (h.step (hq x (List.mem_cons_self ..)))
 exact key q [] hq ⟨fun e h=>(by cases h),by simp,fun e h=>(by cases h)⟩
theorem vJ.keys{es:List (Value × PV)}(h:vJ es){k:Int}(hk : -1000000≤k∧k≤1000000):cJ .i64 es (.int .i64 k):=⟨h.ky,mK hk,h.nd⟩
theorem bEh{kv:Value}{x:PV}(es:List (Value × PV)):(nM es kv x).length=es.length:=by
 have:=congrArg List.length (aAh (kv:=kv) (x:=x) es)
 simpa using this

abbrev dkB(dl:Int)(s1 s2:PV)(a b:AV):AO := .box 176 [.p (aA dl),.p s1,.p s2,a,b]
abbrev kQ(dl:Int)(sk dc:List (List Int)):Mem:=[some (.box 130 [.ptr 1 0]),some (dkB dl (.sl sk.length (sk.flatten.map aA)) (.sl dc.length (dc.flatten.map aA)) (.mp 2) (.mp 3)),some (.mp [] 0),some (.mp [] 0)]
abbrev vK(dl:Int)(v1 v2:Value)(mb:Nat)(es:List (Value × PV)):Mem:=[some (.box 130 [.ptr 1 0]),some (dkB dl (.v v1) (.v v2) (.mp 2) (.p (.v (.map (some mb))))),some (.mp es es.length),some .dead]
abbrev gL(dl:Int)(v1 v2:Value)(mb:Nat)(es:List (Value × PV))(x:List Int):Mem:=[some (.box 130 [.ptr 1 0]),some (dkB dl (.v v1) (.v v2) (.mp 2) (.p (.v (.map (some mb))))),some (.mp es es.length),some .dead,some (.box 44 ((x.map aA).map .p))]
theorem at4{α:Type}{a b c d x:α}{i:Nat}(h:[a,b,c,d][i]? = some x):(i=0∧x=a)∨(i=1∧x=b)∨(i=2∧x=c)∨(i=3∧x=d):=by
 match i with
 | 0=>simp at h;exact .inl ⟨rfl,h.symm⟩
 | 1=>simp at h;exact .inr (.inl ⟨rfl,h.symm⟩)
 | 2=>simp at h;exact .inr (.inr (.inl ⟨rfl,h.symm⟩))
 | 3=>simp at h;exact .inr (.inr (.inr ⟨rfl,h.symm⟩))
 | i+4=>simp at h
theorem at5'{α:Type}{a b c d e x:α}{i:Nat}(h:[a,b,c,d,e][i]? = some x):(i=0∧x=a)∨(i=1∧x=b)∨(i=2∧x=c)∨(i=3∧x=d)∨(i=4∧x=e):=by
 match i with
 | 0=>simp at h;exact .inl ⟨rfl,h.symm⟩
 | 1=>simp at h;exact .inr (.inl ⟨rfl,h.symm⟩)
 | 2=>simp at h;exact .inr (.inr (.inl ⟨rfl,h.symm⟩))
 | 3=>simp at h;exact .inr (.inr (.inr (.inl ⟨rfl,h.symm⟩)))
 | 4=>simp at h;exact .inr (.inr (.inr (.inr ⟨rfl,h.symm⟩)))
 | i+5=>simp at h
section
variable {dl:Int} {sk dc:List (List Int)} {v1 v2:Value} {mb:Nat} {es:List (Value × PV)} {x:List Int} {C C' C3:Cx} {w W W3 W4:World}

theorem qP{i:Nat}{o:AO}(h:(vK dl v1 v2 mb es)[i]? = some (some o))(hl:o.live=true):i=0∨i=1∨i=2:=by
 rcases at4 h with ⟨rfl,_⟩ | ⟨rfl,_⟩ | ⟨rfl,_⟩ | ⟨rfl,e⟩
 ·exact .inl rfl
 ·exact .inr (.inl rfl)
 ·exact .inr (.inr rfl)
 ·cases e;cases hl
theorem eT(i:Nat)(h:i<4):∃ o,(kQ dl sk dc)[i]? = some (some o)∧o.live=true:=by
 match i,h with
 | 0,_=>exact ⟨_,rfl,rfl⟩
 | 1,_=>exact ⟨_,rfl,rfl⟩
 | 2,_=>exact ⟨_,rfl,rfl⟩
 | 3,_=>exact ⟨_,rfl,rfl⟩
theorem bEi:aFs (kQ dl sk dc) (vK dl v1 v2 mb es):=⟨fun i es cl h=>(by
 rcases at4 h with ⟨rfl,e⟩ | ⟨rfl,e⟩ | ⟨rfl,e⟩ | ⟨rfl,e⟩
 ·cases e
 ·cases e
 ·exact ⟨_,rfl,rfl⟩
 ·cases e),fun i o h=>by
 rcases at4 h with ⟨rfl,e⟩ | ⟨rfl,e⟩ | ⟨rfl,e⟩ | ⟨rfl,e⟩ <;> cases e <;> rfl⟩

structure aJf (dl:Int) (sk dc:List (List Int)) (v1 v2:Value) (C:Cx) (w:World) (mb:Nat) (q:List (List Int)) (W:World) (C':Cx) (es:Array MapEntry) (cl:Nat) (L:List Ent):Prop where
 inv:aBd Tryz.prog C (kQ dl sk dc) w C' (vK dl v1 v2 mb (atF q)) W
 ok:kR mb es L
 ls:L.map (fun e=>(e.k,e.l))=q.foldl iS []
 born:∀ y∈es.toList,y.born<cl
 has:∀ p∈gT mb es cl L,W.heap[p.1]? = some p.2∧¬ C'.F p.1∧(p.1=mb∨w.heap.size≤p.1)

theorem aJf.own{q:List (List Int)}{W':World}{ea:Array MapEntry}{cl:Nat}{L:List Ent}{row:Option Nat}(hM0:aV Tryz.prog C (kQ dl sk dc) w)(hmb:C.ι 3=some mb)(h:aJf dl sk dc v1 v2 C w mb q W C' ea cl L)(hg:W.grownBy W' row)
  (hr:∀ r,row=some r→w.heap.size≤r∧∃ o:Obj,W.heap[r]? = some o∧o.isCells=false):aJf dl sk dc v1 v2 C w mb q W' C' ea cl L:=by
 refine ⟨aBd.own bEi hM0 h.inv hg hr,h.ok,h.ls,h.born,fun p hp => ?_⟩
 obtain ⟨h1,h2,h3⟩:=h.has p hp
 refine ⟨(hg.block p.1 (cD h1) fun e => ?_).trans h1,h2,h3⟩
 obtain ⟨q1,o,q2,q3⟩:=hr _ e.symm
 rcases dA.1 hp with rfl | ⟨y,_,rfl⟩
 ·have:=hM0.lt 3 _ mb rfl rfl hmb
  dsimp only at q1
  omega
 ·rw [q2] at h1
  cases h1
  cases q3

theorem aQk{b:Nat}{X:Nat→Prop}{es':List (Value × PV)}(hM0:aV Tryz.prog C (kQ dl sk dc) w)(hmb:C.ι 3=some mb)(hI:aBd Tryz.prog C (kQ dl sk dc) w C' (vK dl v1 v2 mb es) W)(hb:w.heap.size≤b)(hbs:kP W b)(hes:vJ es')
  (hM3:aV Tryz.prog C3 (gL dl v1 v2 mb es' x) W3) (f:Fr ((C'.grow 4 b 1).with []) (gL dl v1 v2 mb es x) W C3 (gL dl v1 v2 mb es' x) W3)
  (hsz:W3.heap.size≤W4.heap.size) (ho:W4.os=W3.os) (ht:W4.tape=W3.tape) (hu:W4.output=W3.output)
  (hX:∀ c,X c→¬ C.F c∧(c=mb∨w.heap.size≤c)∧c<W.heap.size∧c≠b∧(kP W c∨c<w.heap.size)) (hk:∀ c,c<W3.heap.size→¬ X c→W4.heap[c]? = W3.heap[c]?) :
  ∃ C4,aBd Tryz.prog C (kQ dl sk dc) w C4 (vK dl v1 v2 mb es') W4∧KeepsFrom w.heap.size W W4∧KpG C.F W W4:=by
 obtain ⟨hFI,hM,fI⟩:=hI
 have gι:∀ i,i<4→(C'.grow 4 b 1).ι i=C'.ι i:=fun i hi=>by
  have:i≠4:=by omega
  simp [Cx.grow,this]
 have ιC:∀ i,i<4→C'.ι i=C.ι i:=fun i hi=>by
  obtain ⟨o,h1,_⟩:=eT (dl:=dl) (sk:=sk) (dc:=dc) i hi
  exact (fI.ids i o h1).2.1
 have κC:∀ i,i<4→C'.κ i=C.κ i:=fun i hi=>by
  obtain ⟨o,h1,_⟩:=eT (dl:=dl) (sk:=sk) (dc:=dc) i hi
  exact (fI.ids i o h1).2.2
 have ι3:∀ i,i<5→C3.ι i=(C'.grow 4 b 1).ι i∧C3.κ i=(C'.grow 4 b 1).κ i:=fun i hi=>by
  have:∃ o,(gL dl v1 v2 mb es x)[i]? = some (some o):=by
   match i,hi with
   | 0,_=>exact ⟨_,rfl⟩
   | 1,_=>exact ⟨_,rfl⟩
   | 2,_=>exact ⟨_,rfl⟩
   | 3,_=>exact ⟨_,rfl⟩
   | 4,_=>exact ⟨_,rfl⟩
  obtain ⟨o,h⟩:=this
  exact ⟨(f.ids i o h).2.1,(f.ids i o h).2.2⟩
 have ι4:(C'.grow 4 b 1).ι 4=some b:=by simp [Cx.grow]
 have live5:∀ (i:Nat) (o:AO) (c:Nat) (es0:List (Value × PV)),(gL dl v1 v2 mb es0 x)[i]? = some (some o)→o.live=true→(C'.grow 4 b 1).ι i=some c→(∃ i,i<3∧C.ι i=some c)∨c=b:=fun i o c es0 h hl he=>by
  rcases at5' h with ⟨rfl,_⟩ | ⟨rfl,_⟩ | ⟨rfl,_⟩ | ⟨rfl,e⟩ | ⟨rfl,_⟩
  ·rw [gι 0 (by omega),ιC 0 (by omega)] at he;exact .inl ⟨0,by omega,he⟩
  ·rw [gι 1 (by omega),ιC 1 (by omega)] at he;exact .inl ⟨1,by omega,he⟩
  ·rw [gι 2 (by omega),ιC 2 (by omega)] at he;exact .inl ⟨2,by omega,he⟩
  ·cases e;cases hl
  ·rw [ι4] at he;exact .inr (Option.some.inj he).symm
 have lt3:∀ i c,i<3→C.ι i=some c→c<w.heap.size∧c≠mb:=fun i c hi hc=>by
  obtain ⟨o,h1,h2⟩:=eT (dl:=dl) (sk:=sk) (dc:=dc) i (by omega)
  refine ⟨hM0.lt i o c h1 h2 hc,fun e => ?_⟩
  subst e
  have:=hM0.inj i 3 o _ c h1 h2 rfl rfl hc hmb
  omega
 have Xn3:∀ c,X c→∀ i,i<3→C.ι i≠some c:=fun c hc i hi he=>by
  obtain ⟨h1,h2⟩:=lt3 i c hi he
  rcases (hX c hc).2.1 with h3 | h3
  ·exact h2 h3
  ·omega
 have far:∀ c,c<W.heap.size→c≠b→(∀ i,i<3→C.ι i≠some c)→¬ X c→W4.heap[c]? = W.heap[c]? := fun c hc hcb hn hx=>by
  refine (hk c (Nat.lt_of_lt_of_le hc f.size) hx).trans (f.keep c hc fun i o h hl he => ?_)
  rcases live5 i o c _ h hl he with ⟨j,hj,h2⟩ | h2
  ·exact hn j hj h2
  ·exact hcb h2
 have XF3:∀ c,X c→¬ C3.F c:=fun c hc hf=>by
  obtain ⟨h1,h2,h3,h4,_⟩:=hX c hc
  rcases f.F2 c hf with h | h | ⟨i,o,q1,q2,q3⟩
  ·exact h1 ((hFI c).1 h)
  ·omega
  ·rcases live5 i o c _ q1 q2 q3 with ⟨j,hj,h5⟩ | h5
   ·exact Xn3 c hc j hj h5
   ·exact h4 h5
 obtain ⟨hM4,_⟩:=aAk hM3 hsz (fun c hc=>hk c (hM3.Fs c hc) fun hx=>XF3 c hx hc) (fun i o c h hl hc=>hk c (hM3.lt i o c h hl hc) fun hx=>by
  have hi5:i<5:=(List.getElem?_eq_some_iff.1 h).1
  rw [(ι3 i hi5).1] at hc
  rcases live5 i o c _ h hl hc with ⟨j,hj,h5⟩ | h5
  ·exact Xn3 c hx j hj h5
  ·exact (hX c hx).2.2.2.1 h5)
 have hM5:aV Tryz.prog C3 (vK dl v1 v2 mb es') W4:=bJu hM4 (fun i o h=>by
   have hi:i<4:=(List.getElem?_eq_some_iff.1 h).1
   match i,hi with
   | 0,_=>exact h
   | 1,_=>exact h
   | 2,_=>exact h
   | 3,_=>exact h) (fun i ty cs h y hy u hu=>by
   rcases at4 h with ⟨rfl,e⟩ | ⟨rfl,e⟩ | ⟨rfl,e⟩ | ⟨rfl,e⟩
   ·cases e
    rw [List.mem_singleton.1 hy] at hu ⊢
    exact aJh (M:=gL dl v1 v2 mb es' x) rfl hu
   ·cases e
    simp only [List.mem_cons,List.not_mem_nil,or_false] at hy
    rcases hy with rfl | rfl | rfl | rfl | rfl
    ·exact qQ hu
    ·exact qQ hu
    ·exact qQ hu
    ·exact aNq (M:=gL dl v1 v2 mb es' x) rfl hu
    ·exact qQ hu
   ·cases e
   ·cases e)
 have lt4:∀ i (c:Nat),i<4→C3.ι i=some c→C.ι i=some c:=fun i c hi hc=>by rw [(ι3 i (by omega)).1,gι i hi,ιC i hi] at hc;exact hc
 have hM6:aV Tryz.prog ⟨C3.ι,C3.κ,C.F,[]⟩ (vK dl v1 v2 mb es') W4:=by
  refine ⟨fun i ty n cs h => ?_,fun i ty cs h => ?_,fun i es0 cl h => ?_,hM5.inj,fun i o c h hl hc => ?_,fun c hc=>Nat.lt_of_lt_of_le (hM0.Fs c hc) (Nat.le_trans fI.size (Nat.le_trans f.size hsz)),hM5.lt⟩
  ·rcases at4 h with ⟨rfl,e⟩ | ⟨rfl,e⟩ | ⟨rfl,e⟩ | ⟨rfl,e⟩ <;> cases e
  ·obtain ⟨b',arr,q0,q1,q2,q3,q4⟩:=hM5.box _ _ _ h
   refine ⟨b',arr,q0,q1,q2,fun j hj => ?_,q4⟩
   have hq:=q3 j hj
   have hp:∀ (y:PV) (u:Value),ffP y=true→Rep C3 (vK dl v1 v2 mb es') W4 (.p y) u→Rep ⟨C3.ι,C3.κ,C.F,[]⟩ (vK dl v1 v2 mb es') W4 (.p y) u:=fun y u hy hu=>by
    cases hu with
    | p _ _ h=>exact .p _ _ (h.anyF hy)
   rcases at4 h with ⟨rfl,e⟩ | ⟨rfl,e⟩ | ⟨rfl,e⟩ | ⟨rfl,e⟩
   ·cases e
    have:j=0:=by simp at hj;exact hj
    subst this
    simp only [List.getElem_cons_zero] at hq ⊢
    cases hq with
    | ptr _ _ _ h0 ha h hp=>exact .ptr _ _ _ h0 ha h hp
   ·cases e
    match j,hj with
    | 0,_=>exact hp _ _ rfl hq
    | 1,_=>exact hp _ _ rfl hq
    | 2,_=>exact hp _ _ rfl hq
    | 3,_ =>
     simp only [List.getElem_cons_succ,List.getElem_cons_zero] at hq ⊢
     cases hq with
     | mp _ _ h0 ha h=>exact .mp _ _ h0 ha h
    | 4,_=>exact hp _ _ rfl hq
   ·cases e
   ·cases e
  ·obtain ⟨b',arr,q0,q1,q2,q3⟩:=hM5.mp _ _ _ h
   refine ⟨b',arr,q0,q1,q2,fun j hj => ?_⟩
   obtain ⟨en,r1,r2,r3,r4⟩:=q3 j hj
   have hff:ffP es0[j].2=true:=by
    rcases at4 h with ⟨rfl,e⟩ | ⟨rfl,e⟩ | ⟨rfl,e⟩ | ⟨rfl,e⟩
    ·cases e
    ·cases e
    ·cases e;exact hes.nm _ (List.getElem_mem hj)
    ·cases e
   exact ⟨en,r1,r2,r3,r4.anyF hff⟩
  ·have hi:=qP h hl
   obtain ⟨o2,h1,h2⟩:=eT (dl:=dl) (sk:=sk) (dc:=dc) i (by omega)
   exact hM0.nF i o2 c h1 h2 (lt4 i c (by omega) hc)
 refine ⟨⟨C3.ι,C3.κ,C.F,[]⟩,⟨fun c=>Iff.rfl,hM6,⟨ho.trans (f.os.trans fI.os),ht.trans (f.tape.trans fI.tape),hu.trans (f.out.trans fI.out),Nat.le_trans fI.size (Nat.le_trans f.size hsz),fun c hc hno => ?_,fun i o h => ?_,fun i o h ty n cs hm => ?_,fun i o h o' hm hl => ?_,fun i o c hm hl hc => ?_,fun c hc=>hc,fun c hc => .inl hc⟩⟩,⟨Nat.le_trans f.size hsz,fun c o hc ho1 hnc => ?_⟩,⟨Nat.le_trans f.size hsz,fun c hc => ?_⟩⟩
 ·have hn3:∀ i,i<3→C.ι i≠some c:=fun i hi=>by
   obtain ⟨o,h1,h2⟩:=eT (dl:=dl) (sk:=sk) (dc:=dc) i (by omega)
   exact hno i o h1 h2
  have hcm:c≠mb:=fun e=>hno 3 _ rfl rfl (e ▸ hmb)
  refine (far c (Nat.lt_of_lt_of_le hc fI.size) (by omega) hn3 fun hx => ?_).trans (fI.keep c hc hno)
  rcases (hX c hx).2.1 with h | h
  ·exact hcm h
  ·omega
 ·have hi:i<4:=(List.getElem?_eq_some_iff.1 h).1
  refine ⟨?_,by show C3.ι i=C.ι i;rw [(ι3 i (by omega)).1,gι i hi,ιC i hi],by
   show C3.κ i=C.κ i
   rw [(ι3 i (by omega)).2,← κC i hi]
   have:i≠4:=by omega
   simp [Cx.grow,this]⟩
  match i,hi with
  | 0,_=>exact ⟨_,rfl⟩
  | 1,_=>exact ⟨_,rfl⟩
  | 2,_=>exact ⟨_,rfl⟩
  | 3,_=>exact ⟨_,rfl⟩
 ·rcases at4 hm with ⟨rfl,e⟩ | ⟨rfl,e⟩ | ⟨rfl,e⟩ | ⟨rfl,e⟩ <;> cases e
 ·have hi:i<4:=(List.getElem?_eq_some_iff.1 h).1
  obtain ⟨o2,h1,h2⟩:=eT (dl:=dl) (sk:=sk) (dc:=dc) i hi
  rw [h] at h1;cases h1;exact h2
 ·have hi:=qP hm hl
  have hi4:i<4:=by omega
  obtain ⟨o2,h1,h2⟩:=eT (dl:=dl) (sk:=sk) (dc:=dc) i hi4
  exact .inr ⟨i,o2,h1,h2,by rw [← ιC i hi4,← gι i hi4,← (ι3 i (by omega)).1];exact hc⟩
 ·refine (far c (cD ho1) (fun e => ?_) (fun i hi he => ?_) fun hx => ?_).trans ho1
  ·subst e
   obtain ⟨o2,e1,e2⟩:=hbs
   rw [ho1] at e1;cases e1;rw [hnc] at e2;cases e2
  ·have:=(lt3 i c hi he).1
   omega
  ·rcases (hX c hx).2.2.2.2 with ⟨o2,h1,h2⟩ | h
   ·rw [ho1] at h1;cases h1;rw [hnc] at h2;cases h2
   ·omega
 ·refine far c (Nat.lt_of_lt_of_le (hM0.Fs c hc) fI.size) (fun e => ?_) (fun i hi he => ?_) fun hx=>(hX c hx).1 hc
  ·have:=hM0.Fs c hc;omega
  ·obtain ⟨o,h1,h2⟩:=eT (dl:=dl) (sk:=sk) (dc:=dc) i (by omega)
   exact hM0.nF i o c h1 h2 he hc
end
end KV
end Go.Proofs
end
section
namespace Go.Proofs
open Go.RowKit
namespace KV
open Go.ChangeMaps (setBlock)

def qT(e:Ent):Int × List (List Int):=(e.k,e.l)
theorem bSp(L:List Ent)(e:Ent):(nJ L e).map qT=aBc (L.map qT) e.k e.l:=by
 by_cases h:∃ y∈L,y.k=e.k
 ·obtain ⟨y,hy,he⟩:=h
  rw [pX hy he]
  unfold aBc
  rw [if_pos (List.any_eq_true.2 ⟨qT y,List.mem_map.2 ⟨y,hy,rfl⟩,by simpa [qT] using he⟩),List.map_map,List.map_map]
  refine List.map_congr_left fun z _ => ?_
  by_cases hk:z.k=e.k
  ·simp [qT,hk]
  ·simp [qT,hk]
 ·have h':∀ y∈L,y.k≠e.k:=fun y hy he=>h ⟨y,hy,he⟩
  rw [uA h']
  unfold aBc
  rw [if_neg (fun ha=>by
   obtain ⟨z,hz,he⟩:=List.any_eq_true.1 ha
   obtain ⟨y,hy,rfl⟩:=List.mem_map.1 hz
   exact h' y hy (by simpa [qT] using he))]
  simp [qT]
theorem bJn(L:List Ent)(k:Int):nI L k=wQ (L.map qT) k:=by
 unfold nI pW wQ
 induction L with
 | nil=>rfl
 | cons y r ih =>
  rw [List.map_cons,List.find?_cons,List.find?_cons]
  by_cases hk:y.k=k
  ·simp [qT,hk]
  ·have h1:(y.k == k)=false:=by simpa using hk
   have h2:((qT y).1 == k)=false:=h1
   rw [h1,h2]
   exact ih

structure bEe (x:List Int):Prop where
 len:x.length=6
 n:1≤dN x∧dN x≤9999
 ab:0≤dAb x∧dAb x≤9998
theorem bSq{q:List (List Int)}(hq:∀ y∈q,bEe y):∀ e∈q.foldl iS [],e.2.length≤q.length:=fun e he=>by
 have:=vI q [] [] ⟨by simp,fun e h=>(by cases h),fun x h=>(by cases h)⟩ (fun x hx=>(hq x hx).ab.1)
 rw [List.nil_append] at this
 rw [(this.mem e he).2.2]
 exact List.length_filter_le _ _

theorem ask78{dl:Int}{v1 v2:Value}{mb:Nat}{es:List (Value × PV)}{x:List Int}(hx:bEe x)(hes:vJ es):gB Tryz.prog 5 (sub (cd Tryz.f82) [1,1,1,1,0,1,0,1,0,0]) ⟨fr 57 [(6,(.ptr 0 0)),(8,(.ptr 4 0))],gL dl v1 v2 mb es x⟩ .normal ⟨fr 57 [(6,(.ptr 0 0)),(8,(.ptr 4 0))],gL dl v1 v2 mb (jW es x) x⟩:=by
 obtain ⟨a,b,c,d,e,f,rfl⟩:=len6 hx.len
 have hk : -1000000≤dN [a,b,c,d,e,f]∧dN [a,b,c,d,e,f]≤1000000:=by have:=hx.n;omega
 have hK:=hes.keys hk
 unfold jW
 cases hb:dO es (.int .i64 (dN [a,b,c,d,e,f])) with
 | true =>
  rw [if_pos rfl]
  exact (bJq hK hb).cast (by unfold gL;rw [bEh];rfl)
 | false =>
  rw [if_neg (by simp)]
  exact (bJr hK hb).cast (by unfold gL;rw [List.length_append];rfl)
theorem ask8'{dl:Int}{v1 v2:Value}{mb:Nat}{es:List (Value × PV)}{x:List Int}(hx:x.length=6):gB Tryz.prog 5 (sub (cd Tryz.f82) [1,1,1,1,0,1,0,1,0,1,0]) ⟨fr 57 [(6,(.ptr 0 0)),(8,(.ptr 4 0))],gL dl v1 v2 mb es x⟩ .normal ⟨fr 57 [(6,(.ptr 0 0)),(8,(.ptr 4 0)),(39,(.p (blP (decide (dAb x > (0:Int))))))],gL dl v1 v2 mb es x⟩:=by
 obtain ⟨a,b,c,d,e,f,rfl⟩:=len6 hx
 exact bJs
theorem aYu:sub (cd Tryz.f82) [1,1,1,1,0,1,0,1] = .block 1 (.seq (sub (cd Tryz.f82) [1,1,1,1,0,1,0,1,0,0]) (.seq (sub (cd Tryz.f82) [1,1,1,1,0,1,0,1,0,1,0]) (.cond (.tmp 39) (sub (cd Tryz.f82) [1,1,1,1,0,1,0,1,0,1,1,0]) .skip))):=by kernel_rfl

section
variable {dl:Int} {sk dc:List (List Int)} {v1 v2:Value} {mb:Nat} {C C':Cx} {w W:World}
set_option maxHeartbeats 1000000 in
theorem bEf{l n b:Nat}{q:List (List Int)}{x:List Int}{ea:Array MapEntry}{cl:Nat}{L:List Ent}{a:Act}(hx:bEe x)(hq:∀ y∈q,bEe y)(hql:q.length≤1000)(hM0:aV Tryz.prog C (kQ dl sk dc) w)(hmb:C.ι 3=some mb)(hI:aJf dl sk dc v1 v2 C w mb q W C' ea cl L)
  (hsz:a.tmps.size=57) (hdf:a.defers=[]) (h6:Rep C (kQ dl sk dc) w (.ptr 0 0) (a.tmps.getD 6 undef)) (h8:a.tmps.getD 8 undef = .pointer (some ⟨b,0,none⟩)) (hbw:w.heap.size≤b) (hbx:W.heap[b]? = some (.cells (vsL x).toArray 44 (0,0)))
  (hbn:∀ es cl,W.heap[mb]? = some (.map es cl)→∀ y∈es.toList,y.val.ownBlock≠some b) :
  (sub (cd Tryz.f82) [1,1,1,1,0,1,0,1]).wpIn (Fen (some l)) n Tryz.prog (fun e _ W4=>e = .normal∧KeepsFrom w.heap.size W W4∧KpG C.F W W4∧∃ C4 ea' cl' L',aJf dl sk dc v1 v2 C w mb (q++[x]) W4 C4 ea' cl' L') a W:=by
 obtain ⟨inv,hok,hls,hborn,hhas⟩:=hI
 obtain ⟨hFI,hM,fI⟩:=inv
 have hAt:vJ (atF q):=bEg fun y hy=>by have:=(hq y hy).n;omega
 have hmbh:=(hhas (mb,.map ea cl) (by simp [gT])).1
 have hmblt:mb<w.heap.size:=hM0.lt 3 _ mb rfl rfl hmb
 have ιC:∀ i,i<4→C'.ι i=C.ι i:=fun i hi=>by
  obtain ⟨o,h1,_⟩:=eT (dl:=dl) (sk:=sk) (dc:=dc) i hi
  exact (fI.ids i o h1).2.1
 have lt3:∀ i c,i<3→C.ι i=some c→c<w.heap.size∧c≠mb:=fun i c hi hc=>by
  obtain ⟨o,h1,h2⟩:=eT (dl:=dl) (sk:=sk) (dc:=dc) i (by omega)
  refine ⟨hM0.lt i o c h1 h2 hc,fun e => ?_⟩
  subst e
  have:=hM0.inj i 3 o _ c h1 h2 rfl rfl hc hmb
  omega
 have hbF:¬ C'.F b:=fun h=>by have:=hM0.Fs b ((hFI b).1 h);omega
 obtain ⟨hM5,hL5⟩:=aJi (b:=b) (ty:=44) (k:=4) (cs:=x.map aA) (arr:=(vsL x).toArray) hM (fun o h=>by have:=(List.getElem?_eq_some_iff.1 h).1;simp at this) hbx hbF (fun i o h hl he=>by
   have hi:=qP h hl
   rw [ιC i (by omega)] at he
   have:=(lt3 i b (by omega) he).1
   omega) (by simp [vsL]) (fun j hj=>by
   have hj':j<x.length:=by simpa using hj
   rw [List.getElem_map]
   have:(vsL x).toArray.getD j undef = .int .i64 x[j]:=by simp [vsL,Array.getD_eq_getD_getElem?,hj']
   rw [this];exact .v _) (fun j hj=>by
   have hj':j<x.length:=by simpa using hj
   have:(vsL x).toArray.getD j undef = .int .i64 x[j]:=by simp [vsL,Array.getD_eq_getD_getElem?,hj']
   rw [this];rfl)
 have hset:bA (vK dl v1 v2 mb (atF q)) 4 (some (.box 44 ((x.map aA).map .p)))=gL dl v1 v2 mb (atF q) x:=rfl
 rw [hset] at hM5 hL5
 have h6':Rep (C'.grow 4 b 1) (gL dl v1 v2 mb (atF q) x) W (.ptr 0 0) (a.tmps.getD 6 undef):=(h6.mono (hM0.le fI)).mono hL5
 have hSl:eH (C'.grow 4 b 1) (gL dl v1 v2 mb (atF q) x) W (fr 57 [(6,(.ptr 0 0)),(8,(.ptr 4 0))]) a.tmps:=by
  have s0:eH (C'.grow 4 b 1) (gL dl v1 v2 mb (atF q) x) W (List.replicate 57 .any) a.tmps:=⟨by simpa using hsz,fun j hj=>by rw [List.getElem_replicate];exact .any _⟩
  have set1:∀ (t:List AV) (i:Nat) (y:AV),eH (C'.grow 4 b 1) (gL dl v1 v2 mb (atF q) x) W t a.tmps→Rep (C'.grow 4 b 1) (gL dl v1 v2 mb (atF q) x) W y (a.tmps.getD i undef)→eH (C'.grow 4 b 1) (gL dl v1 v2 mb (atF q) x) W (t.set i y) a.tmps:=fun t i y ht hy=>by
   refine ⟨by simpa using ht.size,fun j hj => ?_⟩
   rw [List.getElem_set]
   split
   ·rename_i e;subst e;exact hy
   ·exact ht.rep j (by simpa using hj)
  have h8':Rep (C'.grow 4 b 1) (gL dl v1 v2 mb (atF q) x) W (.ptr 4 0) (a.tmps.getD 8 undef):=by
   rw [h8]
   exact .ptr 4 0 _ rfl ⟨_,rfl⟩ (fun o ho hl=>⟨b,rfl,by simp [Cx.grow]⟩) ⟨b,rfl⟩
  exact set1 _ 8 _ (set1 _ 6 _ s0 h6') h8'
 have hs:Sim Tryz.prog ((C'.grow 4 b 1).with []) (gL dl v1 v2 mb (atF q) x) W ⟨fr 57 [(6,(.ptr 0 0)),(8,(.ptr 4 0))],gL dl v1 v2 mb (atF q) x⟩ a W :=
  ⟨C'.grow 4 b 1,hSl,hM5,(Fr.refl _ _ _).based [],by rw [hdf];exact .nil rfl (fun i o h=>by rcases at5' h with ⟨rfl,e⟩ | ⟨rfl,e⟩ | ⟨rfl,e⟩ | ⟨rfl,e⟩ | ⟨rfl,e⟩ <;> cases e <;> rfl)⟩
 rw [aYu]
 refine wpIn_block (wpIn_seq (wpIn_mono (ask78 (dl:=dl) (v1:=v1) (v2:=v2) (mb:=mb) hx hAt _ _ _ _ _ (by simp) hs (some l) n) ?_))
 rintro e a7 W7 ⟨rfl,hs7⟩
 refine wpIn_seq (wpIn_mono (ask8' (dl:=dl) (v1:=v1) (v2:=v2) (mb:=mb) hx.len _ _ _ _ _ (by simp) hs7 (some l) n) ?_)
 rintro e a8 W3 ⟨rfl,hs8⟩
 have v39:a8.eval (.tmp 39) = .bool (decide (dAb x > 0)):=hs8.slot rfl
 have hsz8:a8.tmps.size=57:=hs8.size
 obtain ⟨C3,hS3,hM3,f3,_⟩:=hs8
 have hblkL:∀ p∈gT mb ea cl L,p.1≠b∧p.1<W.heap.size∧(∀ i,i<3→C.ι i≠some p.1):=fun p hp=>by
  obtain ⟨q1,q2,q3⟩:=hhas p hp
  refine ⟨?_,cD q1,fun i hi he => ?_⟩
  ·rcases dA.1 hp with rfl | ⟨y,hy,rfl⟩
   ·intro e;simp only at e;omega
   ·intro e
    obtain ⟨z,hz,_,z2⟩:=hok.e2 y hy
    exact hbn ea cl hmbh z hz (by rw [z2,← e];rfl)
  ·obtain ⟨h1,h2⟩:=lt3 i _ hi he
   rcases q3 with h | h
   ·exact h2 h
   ·omega
 have gι:∀ i,i<4→(C'.grow 4 b 1).ι i=C'.ι i:=fun i hi=>by
  have:i≠4:=by omega
  simp [Cx.grow,this]
 have hR3:∀ p∈gT mb ea cl L,W3.heap[p.1]? = some p.2:=fun p hp=>by
  obtain ⟨h1,h2,h3⟩:=hblkL p hp
  refine (f3.keep p.1 h2 fun i o h hl he => ?_).trans (hhas p hp).1
  change (C'.grow 4 b 1).ι i=some p.1 at he
  rcases at5' h with ⟨rfl,_⟩ | ⟨rfl,_⟩ | ⟨rfl,_⟩ | ⟨rfl,e⟩ | ⟨rfl,_⟩
  ·rw [gι 0 (by omega),ιC 0 (by omega)] at he;exact h3 0 (by omega) he
  ·rw [gι 1 (by omega),ιC 1 (by omega)] at he;exact h3 1 (by omega) he
  ·rw [gι 2 (by omega),ιC 2 (by omega)] at he;exact h3 2 (by omega) he
  ·cases e;cases hl
  ·simp [Cx.grow] at he;exact h1 he.symm
 have hAt':vJ (jW (atF q) x):=hAt.step (by have:=hx.n;omega)
 have hSol:kP W b:=eZ hbx
 refine wpIn_cond_split v39 (fun ht => ?_) fun hf => ?_
 ·-- it is about another one
  have hpos:0<dAb x:=of_decide_eq_true ht
  obtain ⟨b6,a6,r0,r1,r2,r3,_⟩:=hM3.box 0 _ _ rfl
  have r3:=r3 0 (by simp)
  simp only [List.getElem_cons_zero] at r3
  have u6:∃ bd,a6.getD 0 undef = .pointer (some ⟨bd,0,none⟩)∧C3.ι 1=some bd:=by
   generalize a6.getD 0 undef=u at r3
   cases r3 with
   | ptr _ _ _ h0 ha h hp=>exact h _ rfl rfl
  obtain ⟨bd,ud,ιd⟩:=u6
  obtain ⟨bd',ad,s0,s1,s2,s3,_⟩:=hM3.box 1 _ _ rfl
  rw [ιd] at s0;cases s0
  have s3:=s3 4 (by simp)
  simp only [List.getElem_cons_succ,List.getElem_cons_zero] at s3
  have udm:ad.getD 4 undef = .map (some mb):=by
   generalize ad.getD 4 undef=u at s3
   cases s3 with
   | p _ _ h=>cases h;rfl
  obtain ⟨b8,a8',t0,t1,t2,t3,_⟩:=hM3.box 4 _ _ rfl
  have ι4:C3.ι 4=some b:=by rw [(f3.ids 4 _ rfl).2.1];simp [Cx.with,Cx.grow]
  rw [ι4] at t0;cases t0
  have ha8:a8'=(vsL x).toArray:=by
   apply Array.ext
   ·rw [t2];simp [vsL]
   ·intro j h1 h2
    have hj:j<x.length:=by rw [t2] at h1;simpa using h1
    have:=t3 j (by simpa using hj)
    rw [List.getElem_map,List.getElem_map] at this
    have hu:a8'.getD j undef = .int .i64 x[j]:=by
     generalize a8'.getD j undef=u at this
     cases this with
     | p _ _ h=>cases h;rfl
    simp only [Array.getD_eq_getD_getElem?,Array.getElem?_eq_getElem h1,Option.getD_some] at hu
    rw [hu];simp [vsL]
  subst ha8
  have w6:a8.tmps.getD 6 undef = .pointer (some ⟨b6,0,none⟩):=by
   have:=hS3.at (i:=6) (x := .ptr 0 0) rfl
   generalize a8.tmps.getD 6 undef=u at this
   cases this with
   | ptr _ _ _ h0 ha h hp =>
    obtain ⟨b',h1,h2⟩:=h _ rfl rfl
    rw [r0] at h2;cases h2
    exact h1
  have w8:a8.tmps.getD 8 undef = .pointer (some ⟨b,0,none⟩):=by
   have:=hS3.at (i:=8) (x := .ptr 4 0) rfl
   generalize a8.tmps.getD 8 undef=u at this
   cases this with
   | ptr _ _ _ h0 ha h hp =>
    obtain ⟨b',h1,h2⟩:=h _ rfl rfl
    rw [ι4] at h2;cases h2
    exact h1
  have hLl:∀ e∈L,e.l.length≤1000:=fun e he=>by
   have:qT e∈q.foldl iS []:=by rw [← hls];exact List.mem_map.2 ⟨e,he,rfl⟩
   have:=bSq hq _ this
   simp only [qT] at this
   omega
  have ι0:C.ι 0=some b6:=by
   have:=(f3.ids 0 _ rfl).2.1
   rw [r0] at this
   rw [← ιC 0 (by omega),← gι 0 (by omega)]
   exact this.symm
  have ι1:C.ι 1=some bd:=by
   have:=(f3.ids 1 _ rfl).2.1
   rw [ιd] at this
   rw [← ιC 1 (by omega),← gι 1 (by omega)]
   exact this.symm
  refine wpIn_mono (ask9 (F:=Fen (some l)) (n:=n) (fun _=>trivial) hx.len hsz8 w6 w8 r1 ⟨by rw [r2];simp,ud⟩ s1 ⟨by rw [s2];simp,udm⟩ t1 hok hR3 hLl (fun p hp => ?_) ?_) ?_
  ·obtain ⟨h1,_,h3⟩:=hblkL p hp
   exact ⟨fun e=>h3 0 (by omega) (e ▸ ι0),fun e=>h3 1 (by omega) (e ▸ ι1),h1⟩
  ·have:aHd .i64 (.int .i64 (dAb x))=true:=mK (by have:=hx.ab;omega)
   simp only [aHd,Bool.and_eq_true] at this
   exact this.2
  ·rintro e a9 W4 ⟨rfl,ea',cl',e,A⟩
   obtain ⟨C4,hI4,hK4,hG4⟩:=aQk (x:=x) (X:=fun c=>∃ p∈gT mb ea cl L,p.1=c) (es':=jW (atF q) x) hM0 hmb ⟨hFI,hM,fI⟩ hbw hSol hAt' hM3 f3 A.size A.os A.tape A.out (fun c hc=>by
    obtain ⟨p,hp,rfl⟩:=hc
    obtain ⟨h1,h2,h3⟩:=hblkL p hp
    obtain ⟨g1,g2,g3⟩:=hhas p hp
    refine ⟨fun h=>g2 ((hFI _).2 h),g3,h2,h1,?_⟩
    rcases dA.1 hp with rfl | ⟨y,_,rfl⟩
    ·exact .inr hmblt
    ·exact .inl (eZ g1)) (fun c hc hn=>A.keep c hc fun p hp e=>hn ⟨p,hp,e⟩)
   refine ⟨rfl,hK4,hG4,C4,ea',cl',nJ L e,by rw [aJe];exact hI4,A.ok,?_,A.born hborn,fun p hp => ?_⟩
   ·show (nJ L e).map qT=_
    rw [bSp,A.ky,A.li,bJn,List.foldl_append]
    change aBc (L.map qT) _ _=iS (q.foldl iS []) x
    have:L.map qT=q.foldl iS []:=hls
    rw [this]
    unfold iS
    rw [if_pos hpos]
   ·obtain ⟨h1,h2⟩:=A.has p hp
    refine ⟨h1,fun h => ?_,?_⟩
    ·have hF:=(hI4.1 _).1 h
     rcases h2 with ⟨p0,hp0,h3⟩ | h3
     ·rw [← h3] at hF
      exact (hhas p0 hp0).2.1 ((hFI _).2 hF)
     ·have:=hM0.Fs _ hF
      have:=fI.size
      have:=f3.size
      omega
    ·rcases h2 with ⟨p0,hp0,h3⟩ | h3
     ·rw [← h3];exact (hhas p0 hp0).2.2
     ·right
      have:=fI.size
      have:=f3.size
      omega
 ·-- it is about none
  have hpos:¬ 0<dAb x:=of_decide_eq_false hf
  obtain ⟨C4,hI4,hK4,hG4⟩:=aQk (x:=x) (X:=fun _=>False) (W4:=W3) (es':=jW (atF q) x) hM0 hmb ⟨hFI,hM,fI⟩ hbw hSol hAt' hM3 f3 (Nat.le_refl _) rfl rfl rfl (fun c hc=>hc.elim) (fun c _ _=>rfl)
  refine wpIn_skip ⟨rfl,hK4,hG4,C4,ea,cl,L,by rw [aJe];exact hI4,hok,?_,hborn,fun p hp=>⟨hR3 p hp,fun h=>(hhas p hp).2.1 ((hFI _).2 ((hI4.1 _).1 h)),(hhas p hp).2.2⟩⟩
  rw [List.foldl_append,hls]
  change _=iS (q.foldl iS []) x
  unfold iS
  rw [if_neg hpos]
end
end KV
end Go.Proofs
end
section
namespace Go.Proofs
open Go.RowKit
namespace KV
open Go.ChangeMaps (setBlock)

def abE(dc:List (List Int)):List (Value × PV):=(abM dc).map fun e=>(.int .i64 e.1,.sl e.2.length (e.2.flatten.map aA))
abbrev wR(dl:Int)(sk dc:List (List Int)):Mem:=[some (.box 130 [.ptr 1 0]),some (dkB dl (.sl sk.length (sk.flatten.map aA)) (.sl dc.length (dc.flatten.map aA)) (.mp 2) (.p (.mp (abE dc)))),some (.mp (atF dc.reverse) (atF dc.reverse).length),some .dead]
theorem aQh : sub (cd Tryz.f82) [1, 1, 1, 1, 0, 1, 0] = .rangeFunc (.tmp 27) #[28, 29] (.region 6 #[{ dst := some 8, op := .alloc 44, type := 0, pos := "jury.go:198", after := #[], guard := none }, { dst := none, op := .store 44 (.tmp 8) (.tmp 29), type := 0, pos := "jury.go:198", after := #[{ on := 0, ground := .data }, { on := 0, ground := .phase }], guard := none }] false) (sub (cd Tryz.f82) [1, 1, 1, 1, 0, 1, 0, 1]) := by kernel_rfl
theorem aNo{dc:List (List Int)}(h:cH dc):∀ x∈dc,bEe x:=fun x hx=>⟨h.ud x hx,(iE.1 (h.rng x hx)).1,lD h x hx⟩
theorem aAg{dc:List (List Int)}(x:Bk dc):lP dc x.1∈dc:=by
 unfold lP
 rw [List.getD_eq_getElem?_getD,List.getElem?_eq_getElem x.2]
 exact List.getElem_mem x.2
theorem bEd{dc:List (List Int)}{xs:List (Bk dc)}(h:xs.map (fun x=>x.1)=bk dc.length 0):xs.map (fun x=>lP dc x.1)=dc.reverse:=by
 have:xs.map (fun x=>lP dc x.1)=(xs.map (fun x=>x.1)).map (lP dc):=by rw [List.map_map];rfl
 rw [this,h,bJx,List.map_reverse]
 congr 1
 apply List.ext_getElem
 ·simp
 ·intro i h1 h2
  simp [lP,List.getD_eq_getElem?_getD,List.getElem?_eq_getElem h2]

theorem aNp{F:Nat→Prop}{W:World}{mb cl:Nat}{ea:Array MapEntry}{L:List Ent}{dc:List (List Int)}(hok:kR mb ea L)(hls:L.map (fun e=>(e.k,e.l))=abM dc)(hborn:∀ y∈ea.toList,y.born<cl)
  (hhas:∀ p∈gT mb ea cl L,W.heap[p.1]? = some p.2∧F p.1):cN F W (.mp (abE dc)) (.map (some mb)):=by
 have hlen:ea.size=L.length:=by
  have:=congrArg List.length hok.ord
  simpa using this
 have habE:abE dc=L.map fun e=>(.int .i64 e.k,.sl e.l.length (e.l.flatten.map aA)):=by
  unfold abE
  rw [← hls,List.map_map]
  rfl
 obtain ⟨h0,hF0⟩:=hhas (mb,.map ea cl) (by simp [gT])
 refine cN.mp (abE dc) mb cl ea (fun j=>(L.map Ent.val).getD j undef) hF0 h0 (by rw [habE];simpa using hlen) (fun j hj => ?_) (fun j hj => ?_)
 ·have hjL:j<L.length:=by rw [habE] at hj;simpa using hj
  have hje:j<ea.size:=by omega
  have ho:(ea.toList.map fun x=>(x.key,x.val))[j]? = (L.map fun e=>(Value.int .i64 e.k,e.val))[j]? := by rw [hok.ord]
  rw [List.getElem?_map,List.getElem?_map,List.getElem?_eq_getElem hjL,List.getElem?_eq_getElem (by simpa using hje)] at ho
  simp only [Option.map_some,Option.some.injEq,Prod.mk.injEq] at ho
  refine ⟨ea[j],Array.getElem?_eq_getElem hje,?_,hborn _ (by simp),?_⟩
  ·simp only [habE,List.getElem_map]
   simpa using ho.1
  ·rw [List.getD_eq_getElem?_getD,List.getElem?_map,List.getElem?_eq_getElem hjL]
   simpa using ho.2
 ·have hjL:j<L.length:=by rw [habE] at hj;simpa using hj
  have hm:L[j]∈L:=List.getElem_mem hjL
  have e1:(abE dc)[j].2 = .sl L[j].l.length (L[j].l.flatten.map aA):=by simp only [habE,List.getElem_map]
  have e2:(L.map Ent.val).getD j undef=L[j].val:=by rw [List.getD_eq_getElem?_getD,List.getElem?_map,List.getElem?_eq_getElem hjL];rfl
  rw [e1,e2]
  generalize L[j]=e at hm
  have he:=hok.ok e hm
  obtain ⟨g1,g2⟩:=hhas e.blk (dA.2 (.inr ⟨e,hm,rfl⟩))
  change W.heap[e.b]? = some (.cells e.arr 44 (0,0)) at g1
  have hfl:(e.l.flatten.map aA).length=e.l.length*6:=by rw [List.length_map,mH he.u]
  have hcell:∀ i,i<(e.l.flatten.map aA).length→∃ z,e.l.flatten[i]? = some z∧e.arr[i]? = some (.int .i64 z):=fun i hi=>by
   have hi':i<e.l.flatten.length:=by rw [List.length_map] at hi;exact hi
   refine ⟨e.l.flatten[i],List.getElem?_eq_getElem hi',?_⟩
   have h1:(e.arr.toList.take (e.l.length*6))[i]? = (e.l.flatten.map (Value.int .i64))[i]? := by rw [he.at_]
   rw [List.getElem?_take_of_lt (by omega),List.getElem?_map,List.getElem?_eq_getElem hi'] at h1
   simpa using h1
  refine .sl _ _ _ _ (fun i=>e.arr.getD i undef) he.le he.cap (fun i hi => ?_) (fun i hi => ?_) (fun i hi => ?_)
  ·obtain ⟨z,_,h2⟩:=hcell i hi
   refine ⟨e.b,0,rfl,g2,?_⟩
   obtain ⟨h3,h4⟩:=Array.getElem?_eq_some_iff.1 h2
   rw [Nat.zero_add,bZ g1 h3]
  ·obtain ⟨z,h1,h2⟩:=hcell i hi
   have:e.arr.getD i undef = .int .i64 z:=by rw [Array.getD_eq_getD_getElem?,h2];rfl
   rw [this,List.getElem_map]
   obtain ⟨h3,h4⟩:=List.getElem?_eq_some_iff.1 h1
   rw [h4]
   exact .v _
  ·obtain ⟨z,h1,h2⟩:=hcell i hi
   have:e.arr.getD i undef = .int .i64 z:=by rw [Array.getD_eq_getD_getElem?,h2];rfl
   rw [this];rfl
end KV
end Go.Proofs
end
section
namespace Go.Proofs
open Go.RowKit
namespace KV
open Go.ChangeMaps (setBlock)
section
variable {dl:Int} {sk dc:List (List Int)} {v1 v2:Value} {mb:Nat} {C C':Cx} {w W:World}

theorem aYs{arr0:Array MapEntry}(hM:aV Tryz.prog C (kQ dl sk dc) w)(hmb:C.ι 3=some mb)(hmh:w.heap[mb]? = some (.map #[] 0))
  {bd:Nat} {ad:Array Value} {td:TypeId} (i1:C.ι 1=some bd) (hd:w.heap[bd]? = some (.cells ad td (0,0))) (q1:ad.getD 1 undef=v1) (q2:ad.getD 2 undef=v2):aJf dl sk dc v1 v2 C w mb [] w C #[] 0 []:=by
 have hF0:∀ (i:Nat) (o:AO),(vK dl v1 v2 mb [])[i]? = some (some o)→o.live=true→∃ o',(kQ dl sk dc)[i]? = some (some o')∧o'.live=true:=fun i o h hl=>by
  have hi:=qP h hl
  exact eT i (by omega)
 refine ⟨⟨fun _=>Iff.rfl,⟨fun i ty n cs h => ?_,fun i ty cs h => ?_,fun i es cl h => ?_,fun i i' o o' b h1 l1 h2 l2 e1 e2 => ?_,fun i o b h hl hb => ?_,hM.Fs,fun i o b h hl hb => ?_⟩,
  ⟨rfl,rfl,rfl,Nat.le_refl _,fun _ _ _=>rfl,fun i o h=>⟨?_,rfl,rfl⟩,fun i o h ty n cs hx => ?_,fun i o h o' hx hl => ?_,fun i o b h hl hb => ?_,fun _ h=>h,fun _ h => .inl h⟩⟩,kR.nil mb,rfl,fun y h=>by simp at h,fun p hp => ?_⟩
 ·rcases at4 h with ⟨rfl,e⟩ | ⟨rfl,e⟩ | ⟨rfl,e⟩ | ⟨rfl,e⟩ <;> cases e
 ·rcases at4 h with ⟨rfl,e⟩ | ⟨rfl,e⟩ | ⟨rfl,e⟩ | ⟨rfl,e⟩
  ·cases e
   obtain ⟨b,arr,r0,r1,r2,r3,r4⟩:=hM.box 0 _ _ rfl
   refine ⟨b,arr,r0,r1,r2,fun j hj => ?_,r4⟩
   have:=r3 j hj
   have hj0:j=0:=by simp at hj;exact hj
   subst hj0
   simp only [List.getElem_cons_zero] at this ⊢
   cases this with
   | ptr _ _ _ h0 ha h hp =>
    refine .ptr _ _ _ h0 ⟨_,rfl⟩ (fun o ho hl => ?_) hp
    exact h _ rfl rfl
  ·cases e
   obtain ⟨b,arr,r0,r1,r2,r3,r4⟩:=hM.box 1 _ _ rfl
   rw [i1] at r0;cases r0
   rw [hd] at r1;cases r1
   refine ⟨bd,ad,i1,hd,r2,fun j hj => ?_,r4⟩
   match j,hj with
   | 0,_ =>
    have:=r3 0 (by simp)
    cases this with
    | p _ _ h=>exact .p _ _ h
   | 1,_=>exact .p _ _ (by rw [q1];exact .v _)
   | 2,_=>exact .p _ _ (by rw [q2];exact .v _)
   | 3,_ =>
    have:=r3 3 (by simp)
    simp only [List.getElem_cons_succ,List.getElem_cons_zero] at this ⊢
    cases this with
    | mp _ _ h0 ha h =>
     refine .mp _ _ h0 ⟨_,rfl⟩ fun o ho hl => ?_
     exact h _ rfl rfl
   | 4,_ =>
    have:=r3 4 (by simp)
    simp only [List.getElem_cons_succ,List.getElem_cons_zero] at this ⊢
    generalize ad.getD 4 undef=u at this
    cases this with
    | mp _ _ h0 ha h =>
     obtain ⟨b,h1,h2⟩:=h _ rfl rfl
     rw [hmb] at h2;cases h2
     rw [h1]
     exact .p _ _ (.v _)
  ·cases e
  ·cases e
 ·rcases at4 h with ⟨rfl,e⟩ | ⟨rfl,e⟩ | ⟨rfl,e⟩ | ⟨rfl,e⟩
  ·cases e
  ·cases e
  ·cases e;exact hM.mp 2 _ _ rfl
  ·cases e
 ·obtain ⟨p,q1,q2⟩:=hF0 _ _ h1 l1
  obtain ⟨p',q1',q2'⟩:=hF0 _ _ h2 l2
  exact hM.inj i i' p p' b q1 q2 q1' q2' e1 e2
 ·obtain ⟨p,q1,q2⟩:=hF0 _ _ h hl
  exact hM.nF i p b q1 q2 hb
 ·obtain ⟨p,q1,q2⟩:=hF0 _ _ h hl
  exact hM.lt i p b q1 q2 hb
 ·have hi:i<4:=(List.getElem?_eq_some_iff.1 h).1
  match i,hi with
  | 0,_=>exact ⟨_,rfl⟩
  | 1,_=>exact ⟨_,rfl⟩
  | 2,_=>exact ⟨_,rfl⟩
  | 3,_=>exact ⟨_,rfl⟩
 ·rcases at4 hx with ⟨rfl,e⟩ | ⟨rfl,e⟩ | ⟨rfl,e⟩ | ⟨rfl,e⟩ <;> cases e
 ·have hi:i<4:=(List.getElem?_eq_some_iff.1 h).1
  obtain ⟨p,q1,q2⟩:=eT (dl:=dl) (sk:=sk) (dc:=dc) i hi
  rw [h] at q1;cases q1;exact q2
 ·obtain ⟨p,q1,q2⟩:=hF0 _ _ h hl
  exact .inr ⟨i,p,q1,q2,hb⟩
 ·have:p=(mb,.map #[] 0):=by simpa [gT] using hp
  subst this
  exact ⟨hmh,fun h=>hM.nF 3 _ mb rfl rfl hmb h,.inl rfl⟩

theorem aYt{ea:Array MapEntry}{cl:Nat}{L:List Ent}(hM0:aV Tryz.prog C (kQ dl sk dc) w)(hmb:C.ι 3=some mb)(r1:cN C.F w (.sl sk.length (sk.flatten.map aA)) v1)(r2:cN C.F w (.sl dc.length (dc.flatten.map aA)) v2)
  (hI:aJf dl sk dc v1 v2 C w mb dc.reverse W C' ea cl L) :
  ∃ C5,aV Tryz.prog C5 (wR dl sk dc) W∧Fr C (kQ dl sk dc) w C5 (wR dl sk dc) W∧∀ D,W.heap[D]? = some (.deferred (some []))→w.heap.size≤D→¬ C5.F D:=by
 obtain ⟨⟨hFI,hM,fI⟩,hok,hls,hborn,hhas⟩:=hI
 obtain ⟨F5,hF5⟩:∃ F5:Nat→Prop,F5=fun c=>C'.F c∨∃ p∈gT mb ea cl L,p.1=c:=⟨_,rfl⟩
 have toF:∀ c,C.F c→F5 c:=fun c hc=>by rw [hF5];exact .inl ((hFI c).2 hc)
 have toF':∀ c,C'.F c→F5 c:=fun c hc=>by rw [hF5];exact .inl hc
 have same:∀ c,C.F c→W.heap[c]? = w.heap[c]? := fun c hc=>fI.keep c (hM0.Fs c hc) fun i o h hl he=>hM0.nF i o c h hl he hc
 have ιC:∀ i,i<4→C'.ι i=C.ι i:=fun i hi=>by
  obtain ⟨o,h1,_⟩:=eT (dl:=dl) (sk:=sk) (dc:=dc) i hi
  exact (fI.ids i o h1).2.1
 have live1:∀ {i:Nat} {o:AO},(wR dl sk dc)[i]? = some (some o)→o.live=true→(i=0∨i=1∨i=2)∧∃ o',(vK dl v1 v2 mb (atF dc.reverse))[i]? = some (some o')∧o'.live=true:=fun {i o} h hl=>by
  rcases at4 h with ⟨rfl,e⟩ | ⟨rfl,e⟩ | ⟨rfl,e⟩ | ⟨rfl,e⟩
  ·exact ⟨.inl rfl,_,rfl,rfl⟩
  ·exact ⟨.inr (.inl rfl),_,rfl,rfl⟩
  ·exact ⟨.inr (.inr rfl),_,rfl,rfl⟩
  ·cases e;cases hl
 have lt3:∀ i c,i<3→C.ι i=some c→c<w.heap.size∧c≠mb:=fun i c hi hc=>by
  obtain ⟨o,h1,h2⟩:=eT (dl:=dl) (sk:=sk) (dc:=dc) i (by omega)
  refine ⟨hM0.lt i o c h1 h2 hc,fun e => ?_⟩
  subst e
  have:=hM0.inj i 3 o _ c h1 h2 rfl rfl hc hmb
  omega
 refine ⟨⟨C'.ι,C'.κ,F5,[]⟩,⟨fun i ty n cs h => ?_,fun i ty cs h => ?_,fun i es cl h => ?_,fun i i' o o' b h1 l1 h2 l2 e1 e2 => ?_,fun i o b h hl hb hf => ?_,fun c hc => ?_,fun i o b h hl hb => ?_⟩,
  ⟨fI.os,fI.tape,fI.out,fI.size,fI.keep,fun i o h=>⟨?_,(fI.ids i o h).2⟩,fun i o h ty n cs hx => ?_,fun i o h o' hx hl => ?_,fun i o b h hl hb => ?_,toF,fun c hc => ?_⟩,fun D hD hDs hf => ?_⟩
 ·rcases at4 h with ⟨rfl,e⟩ | ⟨rfl,e⟩ | ⟨rfl,e⟩ | ⟨rfl,e⟩ <;> cases e
 ·rcases at4 h with ⟨rfl,e⟩ | ⟨rfl,e⟩ | ⟨rfl,e⟩ | ⟨rfl,e⟩
  ·cases e
   obtain ⟨b,arr,r0,r1,r2,r3,r4⟩:=hM.box 0 _ _ rfl
   refine ⟨b,arr,r0,r1,r2,fun j hj => ?_,r4⟩
   have:=r3 j hj
   have hj0:j=0:=by simp at hj;exact hj
   subst hj0
   simp only [List.getElem_cons_zero] at this ⊢
   cases this with
   | ptr _ _ _ h0 ha h hp =>
    refine .ptr _ _ _ h0 ⟨_,rfl⟩ (fun o ho hl => ?_) hp
    exact h _ rfl rfl
  ·cases e
   obtain ⟨b,arr,s0,s1,s2,s3,s4⟩:=hM.box 1 _ _ rfl
   have opq:∀ (j:Nat) (v:Value),Rep C' (vK dl v1 v2 mb (atF dc.reverse)) W (.p (.v v)) (arr.getD j undef)→arr.getD j undef=v:=fun j v h=>by
    generalize arr.getD j undef=u at h
    cases h with
    | p _ _ h=>cases h;rfl
   refine ⟨b,arr,s0,s1,s2,fun j hj => ?_,s4⟩
   match j,hj with
   | 0,_ =>
    have:=s3 0 (by simp)
    cases this with
    | p _ _ h=>exact .p _ _ (h.anyF rfl)
   | 1,_ =>
    show Rep _ _ W (.p (.sl sk.length (sk.flatten.map aA))) (arr.getD 1 undef)
    rw [opq 1 v1 (s3 1 (by simp))]
    exact .p _ _ (r1.mono toF same)
   | 2,_ =>
    show Rep _ _ W (.p (.sl dc.length (dc.flatten.map aA))) (arr.getD 2 undef)
    rw [opq 2 v2 (s3 2 (by simp))]
    exact .p _ _ (r2.mono toF same)
   | 3,_ =>
    have:=s3 3 (by simp)
    simp only [List.getElem_cons_succ,List.getElem_cons_zero] at this ⊢
    cases this with
    | mp _ _ h0 ha h =>
     refine .mp _ _ h0 ⟨_,rfl⟩ fun o ho hl => ?_
     exact h _ rfl rfl
   | 4,_ =>
    show Rep _ _ W (.p (.mp (abE dc))) (arr.getD 4 undef)
    rw [opq 4 (.map (some mb)) (s3 4 (by simp))]
    exact .p _ _ (aNp hok hls hborn fun p hp=>⟨(hhas p hp).1,by rw [hF5];exact .inr ⟨p,hp,rfl⟩⟩)
  ·cases e
  ·cases e
 ·rcases at4 h with ⟨rfl,e⟩ | ⟨rfl,e⟩ | ⟨rfl,e⟩ | ⟨rfl,e⟩
  ·cases e
  ·cases e
  ·cases e
   obtain ⟨b,arr,s0,s1,s2,s3⟩:=hM.mp 2 _ _ rfl
   refine ⟨b,arr,s0,s1,s2,fun j hj => ?_⟩
   obtain ⟨en,t1,t2,t3,t4⟩:=s3 j hj
   exact ⟨en,t1,t2,t3,t4.mono toF' (fun _ _=>rfl)⟩
  ·cases e
 ·obtain ⟨_,p,q1,q2⟩:=live1 h1 l1
  obtain ⟨_,p',q1',q2'⟩:=live1 h2 l2
  exact hM.inj i i' p p' b q1 q2 q1' q2' e1 e2
 ·obtain ⟨hi,p,q1,q2⟩:=live1 h hl
  rw [hF5] at hf
  rcases hf with hf | ⟨p0,hp0,hpb⟩
  ·exact hM.nF i p b q1 q2 hb hf
  ·have hb':C.ι i=some b:=by rw [← ιC i (by omega)];exact hb
   obtain ⟨g1,g2⟩:=lt3 i b (by omega) hb'
   rcases (hhas p0 hp0).2.2 with h5 | h5 <;> omega
 ·rw [hF5] at hc
  rcases hc with hc | ⟨p0,hp0,rfl⟩
  ·exact hM.Fs c hc
  ·exact cD (hhas p0 hp0).1
 ·obtain ⟨_,p,q1,q2⟩:=live1 h hl
  exact hM.lt i p b q1 q2 hb
 ·have hi:i<4:=(List.getElem?_eq_some_iff.1 h).1
  match i,hi with
  | 0,_=>exact ⟨_,rfl⟩
  | 1,_=>exact ⟨_,rfl⟩
  | 2,_=>exact ⟨_,rfl⟩
  | 3,_=>exact ⟨_,rfl⟩
 ·rcases at4 hx with ⟨rfl,e⟩ | ⟨rfl,e⟩ | ⟨rfl,e⟩ | ⟨rfl,e⟩ <;> cases e
 ·have hi:i<4:=(List.getElem?_eq_some_iff.1 h).1
  obtain ⟨p,q1,q2⟩:=eT (dl:=dl) (sk:=sk) (dc:=dc) i hi
  rw [h] at q1;cases q1;exact q2
 ·obtain ⟨_,p,q1,q2⟩:=live1 h hl
  exact fI.new i p b q1 q2 hb
 ·rw [hF5] at hc
  rcases hc with hc | ⟨p0,hp0,rfl⟩
  ·exact .inl ((hFI c).1 hc)
  ·rcases (hhas p0 hp0).2.2 with h5 | h5
   ·exact .inr (.inr ⟨3,_,rfl,rfl,by rw [h5];exact hmb⟩)
   ·exact .inr (.inl h5)
 ·rw [hF5] at hf
  rcases hf with hf | ⟨p0,hp0,rfl⟩
  ·have:=hM0.Fs D ((hFI D).1 hf);omega
  ·have h6:=(hhas p0 hp0).1
   rw [hD] at h6
   rcases dA.1 hp0 with rfl | ⟨y,_,rfl⟩ <;> cases h6
end
theorem info44q:∃ i,Tryz.prog.info? 44=some i∧i.zero=some zD6∧i.size=6:=by
 obtain ⟨i,h1,h2,h3,_⟩:=info_parts info44z
 exact ⟨i,h1,h2,h3⟩
theorem aJc(W:World):(Instr.alloc 44 true (.tuple #[])).run Tryz.prog W = .ok (.pointer (some ⟨W.heap.size,0,none⟩)) (W.alloc (.cells zD6.cells 44)):=rfl
set_option maxHeartbeats 1000000 in
theorem bEc(dl:Int)(sk dc:List (List Int))(hd:cH dc):aC Tryz.prog 0 (sub (cd Tryz.f82) [1,1,1,1,0,1,0]) ⟨fr 57 [(6,(.ptr 0 0)),(27,aJg dc)],kQ dl sk dc⟩ .normal ⟨fr 57 [(6,(.ptr 0 0))],wR dl sk dc⟩:=by
 intro C0 M0 w0 a w hk hs ro hro n
 have hro':ro=none:=hro.resolve_right (by rw [aQh];simp [nrf])
 subst hro'
 rw [aQh]
 refine zR (n:=3) ?_
 obtain ⟨C,hSl,hM,hF,hD⟩:=hs
 obtain ⟨mb,arr0,hmb,hmh,hz,_⟩:=hM.mp 3 _ _ rfl
 obtain rfl:arr0 = #[]:=Array.eq_empty_of_size_eq_zero (by simpa using hz)
 obtain ⟨bd,ad,i1,hdh,hs1,hr1,ho1⟩:=hM.box 1 _ _ rfl
 have r1:cN C.F w (.sl sk.length (sk.flatten.map aA)) (ad.getD 1 undef):=by
  have:=hr1 1 (by simp)
  cases this with
  | p _ _ h=>exact h
 have r2:cN C.F w (.sl dc.length (dc.flatten.map aA)) (ad.getD 2 undef):=by
  have:=hr1 2 (by simp)
  cases this with
  | p _ _ h=>exact h
 have hmblt:mb<w.heap.size:=hM.lt 3 _ mb rfl rfl hmb
 have hsz:a.tmps.size=57:=hSl.size
 have h6:=hSl.at (i:=6) (x := .ptr 0 0) rfl
 obtain ⟨lb,Sp,hu,hseq⟩:=aYx dc hd.ud hd.len C (kQ dl sk dc) w _ (hSl.at (i:=27) (x:=aJg dc) rfl) hM.Fs
 have actT:∀ (x:Bk dc) (b:Nat),((({ tmps:=(a.tmps.setIfInBounds 28 (.int .i64 (x.1:Nat))).setIfInBounds 29 (.agg (vals6 (lP dc x.1))),defers:=[] }:Act).put (some 8) (.pointer (some ⟨b,0,none⟩))).tmps.size=57) ∧
   (({ tmps:=(a.tmps.setIfInBounds 28 (.int .i64 (x.1:Nat))).setIfInBounds 29 (.agg (vals6 (lP dc x.1))),defers:=[] }:Act).put (some 8) (.pointer (some ⟨b,0,none⟩))).tmps.getD 6 undef=a.tmps.getD 6 undef ∧
   (({ tmps:=(a.tmps.setIfInBounds 28 (.int .i64 (x.1:Nat))).setIfInBounds 29 (.agg (vals6 (lP dc x.1))),defers:=[] }:Act).put (some 8) (.pointer (some ⟨b,0,none⟩))).tmps.getD 8 undef = .pointer (some ⟨b,0,none⟩):=fun x b=>by
  refine ⟨by simp [Act.put,hsz],?_,?_⟩
  ·simp [Act.put,Array.getD_eq_getD_getElem?]
  ·simp [Act.put,Array.getD_eq_getD_getElem?,hsz]
 refine wpIn_rangeFunc_ownH (F:=Fen none) (n:=3) rfl (by omega) (gf:=187) (lb:=lb) hu trivial (fun args w=>rfl) hseq (fun h k=>h.trans k)
  (fun W l o o' hl h1 h2 h3=>⟨by simp,fun b hb=>(grownBy_putObj' W l o').block b (Nat.lt_of_lt_of_le (hM.Fs b hb) (Nat.le_trans hl (Nat.le_of_lt (Array.getElem?_eq_some_iff.1 h1).1))) (fun e=>by cases e;have:=hM.Fs _ hb;omega)⟩)
  (Below.refl _ _) (fun _=>rfl)
  (fun pre W=>∃ C' ea cl L,aJf dl sk dc (ad.getD 1 undef) (ad.getD 2 undef) C w mb (pre.map fun x=>lP dc x.1) W C' ea cl L) (fun _ _ _=>False)
  (fun pre X Y row hs hg hr=>by obtain ⟨C',ea,cl,L,h⟩:=hs;exact ⟨C',ea,cl,L,h.own hM hmb hg hr⟩) (fun _ _ _ _ _ hs _ _=>hs)
  ⟨C,#[],0,[],aYs (arr0 := #[]) hM hmb hmh i1 hdh rfl rfl⟩
  (fun x a' W=>∃ b,a'=(({ tmps:=(a.tmps.setIfInBounds 28 (.int .i64 (x.1:Nat))).setIfInBounds 29 (.agg (vals6 (lP dc x.1))),defers:=[] }:Act).put (some 8) (.pointer (some ⟨b,0,none⟩)))∧w.heap.size≤b∧W.heap[b]? = some (.cells (vsL (lP dc x.1)).toArray 44 (0,0))∧∀ es cl,W.heap[mb]? = some (.map es cl)→∀ y∈es.toList,y.val.ownBlock≠some b)
  (fun x a' _ X Y row hs hg hr => ?hAx) ?assign ?body ?done ?stop
 case hAx =>
  obtain ⟨b,h1,h2,h3,h4⟩:=hs
  have hno:∀ c,c<X.heap.size→(c<w.heap.size∨kP X c)→Y.heap[c]? = X.heap[c]? := fun c hc hd=>hg.block c hc (fun e=>by
   obtain ⟨q1,o,q2,q3⟩:=hr c e.symm
   rcases hd with hd | hd
   ·omega
   ·exact iY q2 q3 hd)
  refine ⟨b,h1,h2,(hno b (cD h3) (.inr (eZ h3))).trans h3,fun es cl h => ?_⟩
  by_cases hlt:mb<X.heap.size
  ·rw [hno mb hlt (.inl hmblt)] at h
   exact h4 es cl h
  ·exact absurd (Nat.lt_of_lt_of_le (cD h3) (Nat.le_refl _)) (by omega)
 case assign =>
  intro l pre x W K hI hK
  rw [zip2']
  obtain ⟨C',ea,cl,L,hI⟩:=hI
  have hx:=aNo hd _ (aAg x)
  have hev:vals6 (lP dc x.1)=(vsL (lP dc x.1)).toArray:=rfl
  refine wpIn_region_lit (wpListIn_plain rfl fun K' hK' => ?_)
  unfold Oper.wpIn
  refine ⟨fun f _=>trivial,?_⟩
  rw [Oper.semAt_plain _ _ _ (by intro c hc';cases hc')]
  have e1 : ∀ ρ : Operand → Value, (execOp ρ { dst := some 8, op := .alloc 44, type := 0, pos := "jury.go:198", after := #[], guard := none }).run Tryz.prog W = .ok (.value (.pointer (some ⟨W.heap.size, 0, none⟩))) (W.alloc (.cells zD6.cells 44)) := fun ρ => by
   unfold execOp
   dsimp only
   rw [Sem.run_bind,aJc,Result.andThen_ok,Sem.run_pure]
  rw [e1]
  refine hK' _ _ (wpListIn_plain rfl fun K2 hK2 => ?_)
  unfold Oper.wpIn
  refine ⟨fun f _=>trivial,?_⟩
  rw [Oper.semAt_plain _ _ _ (by intro c hc';cases hc')]
  obtain ⟨i44,hi,hz0,hz1⟩:=info44q
  have e8:(({ tmps:=(a.tmps.setIfInBounds 28 (.int .i64 (x.1:Nat))).setIfInBounds 29 (.agg (vals6 (lP dc x.1))),defers:=[] }:Act).put (some 8) (.pointer (some ⟨W.heap.size,0,none⟩))).eval (.tmp 8) = .pointer (some ⟨W.heap.size,0,none⟩):=(actT x W.heap.size).2.2
  have e29:(({ tmps:=(a.tmps.setIfInBounds 28 (.int .i64 (x.1:Nat))).setIfInBounds 29 (.agg (vals6 (lP dc x.1))),defers:=[] }:Act).put (some 8) (.pointer (some ⟨W.heap.size,0,none⟩))).eval (.tmp 29) = .agg (vals6 (lP dc x.1)):=by
   simp [Act.eval,Act.put,Array.getD_eq_getD_getElem?,hsz]
  have e2:=run_storeAt_new (P:=Tryz.prog) W 44 zD6.cells (vals6 (lP dc x.1)) (by rw [hi];simp [hz1,hev,vsL,hx.len]) (by simp [hev,vsL,hx.len];rfl) (by
   rw [Array.all_eq_true]
   intro i h
   simp [hev,vsL]
   rfl)
  have e3 : ∀ ρ : Operand → Value, ρ (.tmp 8) = .pointer (some ⟨W.heap.size, 0, none⟩) → ρ (.tmp 29) = .agg (vals6 (lP dc x.1)) → (execOp ρ { dst := none, op := .store 44 (.tmp 8) (.tmp 29), type := 0, pos := "jury.go:198", after := #[{ on := 0, ground := .data }, { on := 0, ground := .phase }], guard := none }).run Tryz.prog (W.alloc (.cells zD6.cells 44)) = .ok .skip (W.alloc (.cells (vals6 (lP dc x.1)) 44)) := fun ρ h1 h2 => by
   unfold execOp
   dsimp only
   rw [h1,h2,Sem.run_bind,e2,Result.andThen_ok,Sem.run_pure]
  rw [e3 _ e8 e29]
  refine hK2 _ _ (wpListIn_nil (hK _ _ ?_ ?_ ?_ ?_))
  ·exact ⟨by simp,fun k o _ hk _=>((iV W _).2.2 k (cD hk)).trans hk⟩
  ·exact ⟨by simp,fun b hb=>(iV W _).2.2 b (Nat.lt_of_lt_of_le (hM.Fs b hb) hI.inv.2.2.size)⟩
  ·exact ⟨C',ea,cl,L,hI.own hM hmb (World.grownBy_alloc W _ none) (fun r e=>by cases e)⟩
  ·refine ⟨W.heap.size,rfl,hI.inv.2.2.size,(iV W _).2.1,fun es2 cl2 h y hy hyb => ?_⟩
   have hm1:=(hI.has (mb,.map ea cl) (by simp [gT])).1
   rw [(iV W _).2.2 mb (cD hm1),hm1] at h
   cases h
   obtain ⟨e,he,_,hv⟩:=hI.ok.e1 y hy
   rw [hv] at hyb
   have hb2:e.b=W.heap.size:=by
    have:Ent.val e = .slice (some ⟨e.b,0,none⟩) e.l.length e.cap:=rfl
    rw [this] at hyb
    exact Option.some.inj hyb
   have:=cD (hI.has e.blk (dA.2 (.inr ⟨e,he,rfl⟩))).1
   simp only [Ent.blk] at this
   omega
 case body =>
  rintro l pre x a' W hl _ ⟨C',ea,cl,L,hI⟩ ⟨b,rfl,hb1,hb2,hb3⟩ hlt
  obtain ⟨t1,t2,t3⟩:=actT x b
  refine wpIn_mono (bEf (l:=l) (n:=1) (aNo hd _ (aAg x)) (fun y hy=>by
   obtain ⟨z,_,rfl⟩:=List.mem_map.1 hy
   exact aNo hd _ (aAg z)) (by rw [List.length_map];have:=hd.len;omega) hM hmb hI t1 rfl (by rw [t2];exact h6) t3 hb1 hb2 hb3) ?_
  rintro e a2 W4 ⟨rfl,hK,hG,h⟩
  exact ⟨hK,hG,by simpa [List.map_append] using h⟩
 case done =>
  intro D xs W hD' hSx hI hDm
  obtain ⟨C',ea,cl,L,hI⟩:=hI
  rw [bEd hSx] at hI
  obtain ⟨C5,hM5,f5,hF5⟩:=aYt hM hmb r1 r2 hI
  have hnp:aKe (wR dl sk dc):=fun i o h=>by rcases at4 h with ⟨rfl,e⟩ | ⟨rfl,e⟩ | ⟨rfl,e⟩ | ⟨rfl,e⟩ <;> cases e <;> rfl
  refine ⟨rfl,C5,?_,hM5,hF.trans f5,?_⟩
  ·have s0:eH C5 (wR dl sk dc) W (List.replicate 57 .any) a.tmps:=⟨by simpa using hsz,fun j hj=>by rw [List.getElem_replicate];exact .any _⟩
   refine ⟨hsz.trans rfl,fun j hj => ?_⟩
   have hfr:fr 57 [(6,.ptr 0 0)]=(List.replicate 57 AV.any).set 6 (.ptr 0 0):=rfl
   simp only [hfr] at hj ⊢
   rw [List.getElem_set]
   split
   ·rename_i e;subst e;exact h6.mono (hM.le f5)
   ·exact s0.rep j (by simpa using hj)
  ·obtain ⟨⟨l,e1,e2,e3⟩,hR⟩:=hD.fr hM (fun i to ti sz L h=>by have:=hnp _ _ h;cases this) f5
   obtain ⟨⟨l',e1',_,e3'⟩,_⟩:=hD
   have hll:l=l':=by
    have:=e1.symm.trans e1'
    exact (List.map_inj_right (fun x y h=>by simpa [mark] using h)).1 this
   refine ⟨⟨D::l,by rw [e1];rfl,List.nodup_cons.2 ⟨fun hin => ?_,e2⟩,fun D' hD2 => ?_⟩,hR⟩
   ·rw [hll] at hin
    have:=(Array.getElem?_eq_some_iff.1 (e3' D hin).1).1
    omega
   ·rcases List.mem_cons.1 hD2 with rfl | hin
    ·exact ⟨hDm,Nat.le_trans hF.size hD',hF5 _ hDm hD'⟩
    ·exact e3 D' hin
 case stop =>
  intro D c pre W _ _ h _
  exact h.elim
end KV
end Go.Proofs
end
namespace Go.Proofs
namespace KV
section

theorem bTu(dc:List (List Int)){base:Nat}:FV Tryz.prog 147 [.p (.sl dc.length (dc.flatten.map aA))] base (aJg dc) []:=bTw
theorem lO{dl:Int}{sk dc:List (List Int)}(h:dG dl sk dc):cH (aB dc):=by
 have hm:∀ x,x∈aB dc↔x∈dc:=fun x=>(dU dc).mem_iff
 refine ⟨eB h.ud,by rw [dV];have:=h.len2;omega,fun x hx=>h.hdc x ((hm x).1 hx),?_,fun x hx=>h.ord x ((hm x).1 hx)⟩
 have hn:(aN (aB dc) 0).Nodup:=((dU dc).map _).nodup_iff.2 h.nd
 have hs:=kW dc
 unfold aN at hn
 rw [List.Nodup,List.pairwise_map] at hn
 exact (hs.and hn).imp fun ⟨h1,h2⟩=>by
  show _<_
  unfold dN
  omega
theorem bJm{dl:Int}{sk dc:List (List Int)}(h0:dG dl sk dc)(h1:cH (aB dc)){base:Nat}:FV Tryz.prog 82 [(.p (.agg (bH dl sk dc)))] base (.tup [(.rp [(aA dl),(.sl ((aB sk).length) ((aB sk).flatten.map aA)),(.sl ((aB dc).length) ((aB dc).flatten.map aA)),(.mp (atF (aB dc).reverse)),(.mp (abE (aB dc)))] 0),(.p (aA 0))]) []:=by
 exact FV.fin Tryz.func82 rfl (o:=[.c (.tup [(.p (.agg (bH dl (aB sk) (aB dc)))),(.p (aA 0))]) [],bF,.c (.fn 187 [] [(.rp [(.sl ((aB dc).length) ((aB dc).flatten.map aA))] 0)]) [],.k 1 ⟨(rng [(0,6),(7,20),(28,29)]),[5,4,2,3],[],[]⟩ .normal ⟨fr 57 [(6,(.ptr 0 0))],wR dl (aB sk) (aB dc)⟩,.g 1 ⟨[],[0],[2,1],[]⟩]) (l:=[aC Tryz.prog 0 (sub (cd Tryz.f82) [1,1,1,1,0,1,0]) ⟨fr 57 [(6,(.ptr 0 0)),(27,aJg (aB dc))],kQ dl (aB sk) (aB dc)⟩ .normal ⟨fr 57 [(6,(.ptr 0 0))],wR dl (aB sk) (aB dc)⟩,_,((0:Int) != (0:Int))=false,_]) (by kernel_rfl) (gc (bEc dl (aB sk) (aB dc) h1) (gc (fk 6 (bTu (aB dc)) rfl) (gc (by first | decide | simp) (gc (fk 1 (aLm dl sk dc h0) rfl) gn))))
abbrev aK(dl:Int)(sk dc:List (List Int)):List PV:=[aA dl,.sl sk.length (sk.flatten.map aA),.sl dc.length (dc.flatten.map aA),.mp (atF dc.reverse),.mp (abE dc)]
theorem kA(dl:Int)(sk dc:List (List Int))(h:dG dl sk dc){base:Nat}:FV Tryz.prog 82 [.p (.agg (bH dl sk dc))] base (.tup [.rp (aK dl (aB sk) (aB dc)) 0,.p (aA 0)]) []:=bJm h (lO h)
end
section
section
variable {P:Program} {k:Nat} {b:Code} {β:Type}
theorem aF.ex{e:Ex}(S:Nat→β→St)(R:β→St)(Inv:Nat→β→Prop)(he:e ≠ .normal)(n:Nat)
  (hs:∀ (i:Nat) (acc:β),i<n→Inv i acc→∃ acc',Inv (i+1) acc'∧aC P k b (S i acc) .normal (S (i+1) acc'))
  (hx:∀ acc,Inv n acc→aC P k b (S n acc) e (R acc)) {acc:β} (h0:Inv 0 acc):∃ acc',Inv n acc'∧aF P k b (S 0 acc) e (R acc'):=by
 have key:∀ (d i:Nat) (acc:β),i+d=n→Inv i acc→∃ acc',Inv n acc'∧aF P k b (S i acc) e (R acc'):=by
  intro d
  induction d with
  | zero =>
   intro i acc hi h
   obtain rfl:i=n:=by omega
   exact ⟨acc,h,.exit (hx acc h) he⟩
  | succ d ih =>
   intro i acc hi h
   obtain ⟨acc1,h1,c1⟩:=hs i acc (by omega) h
   obtain ⟨acc2,h2,c2⟩:=ih (i+1) acc1 (by omega) h1
   exact ⟨acc2,h2,.step c1 c2⟩
 exact key n 0 acc (by omega) h0
theorem aF.exF{e1 e2:Ex}(S:Nat→β→St)(R1:Nat→β→St)(R2:β→St)(Inv:β→Prop)(h1:e1 ≠ .normal)(h2:e2 ≠ .normal)(p:Nat→Bool)(n:Nat)
  (hs:∀ (i:Nat) (acc:β),i<n→Inv acc→p i=false→∃ acc',Inv acc'∧aC P k b (S i acc) .normal (S (i+1) acc'))
  (hq:∀ (i:Nat) (acc:β),i<n→Inv acc→p i=true→∃ acc',Inv acc'∧aC P k b (S i acc) e1 (R1 i acc'))
  (hx:∀ acc,Inv acc→aC P k b (S n acc) e2 (R2 acc)) {acc:β} (h0:Inv acc) :
  (∃ i acc',i<n∧p i=true∧(∀ j,j<i→p j=false)∧Inv acc'∧aF P k b (S 0 acc) e1 (R1 i acc'))∨((∀ j,j<n→p j=false)∧∃ acc',Inv acc'∧aF P k b (S 0 acc) e2 (R2 acc')):=by
 have key:∀ (d i:Nat) (acc:β),i+d=n→Inv acc→(∀ j,j<i→p j=false)→(∃ i' acc',i'<n∧p i'=true∧(∀ j,j<i'→p j=false)∧Inv acc'∧aF P k b (S i acc) e1 (R1 i' acc'))∨((∀ j,j<n→p j=false)∧∃ acc',Inv acc'∧aF P k b (S i acc) e2 (R2 acc')):=by
  intro d
  induction d with
  | zero =>
   intro i acc hi h hj
   obtain rfl:i=n:=by omega
   exact .inr ⟨hj,acc,h,.exit (hx acc h) h2⟩
  | succ d ih =>
   intro i acc hi h hj
   cases hp:p i with
   | true =>
    obtain ⟨acc1,q1,c1⟩:=hq i acc (by omega) h hp
    exact .inl ⟨i,acc1,by omega,hp,hj,q1,.exit c1 h1⟩
   | false =>
    obtain ⟨acc1,q1,c1⟩:=hs i acc (by omega) h hp
    rcases ih (i+1) acc1 (by omega) q1 (fun j hj2=>by
     rcases Nat.lt_or_ge j i with h3 | h3
     ·exact hj j h3
     ·obtain rfl:j=i:=by omega
      exact hp) with ⟨i',acc',r1,r2,r3,r4,r5⟩ | ⟨r1,acc',r2,r3⟩
    ·exact .inl ⟨i',acc',r1,r2,r3,r4,.step c1 r5⟩
    ·exact .inr ⟨r1,acc',r2,.step c1 r3⟩
 exact key n 0 acc (by omega) h0 (fun j hj=>absurd hj (Nat.not_lt_zero _))
end
def aH(T:List (Int × Bool)):List (Value × PV):=T.map fun p=>(.int .i64 p.1,blP p.2)
theorem aYp(T:List (Int × Bool))(n:Int)(b:Bool):aH (T++[(n,b)])=aH T++[(.int .i64 n,blP b)]:=by simp [aH]
structure cL (dl:Int) (oc:List Int) (dc:List (List Int)) (T:List (Int × Bool)):Prop where
 nd:(T.map (·.1)).Nodup
 ok:∀ p∈T,∃ x∈dc,dN x=p.1∧dY dl oc dc x=p.2
section
variable {dl:Int} {oc:List Int} {dc:List (List Int)} {T:List (Int × Bool)}
theorem cL.nil:cL dl oc dc []:=⟨by simp,fun p hp=>by cases hp⟩
theorem fR(h:cH dc){x:List Int}(hx:x∈dc):1≤dN x∧dN x≤9999:=(iE.1 (h.rng x hx)).1
theorem xK(h:cH dc){x y:List Int}(hx:x∈dc)(hy:y∈dc)(e:dN x=dN y):x=y:=by
 obtain ⟨i,hi,rfl⟩:=List.mem_iff_getElem.1 hx
 obtain ⟨j,hj,rfl⟩:=List.mem_iff_getElem.1 hy
 have hu:=List.pairwise_iff_getElem.1 h.up
 rcases Nat.lt_trichotomy i j with q | q | q
 ·have:=hu i j hi hj q;omega
 ·subst q;rfl
 ·have:=hu j i hj hi q;omega
theorem cL.keys(h:cL dl oc dc T)(hd:cH dc){n:Int}(hn:1≤n∧n≤9999):cJ .i64 (aH T) (.int .i64 n):=by
 refine ⟨fun e he => ?_,mK (by omega),?_⟩
 ·obtain ⟨p,hp,rfl⟩:=List.mem_map.1 he
  obtain ⟨x,hx,e1,_⟩:=h.ok p hp
  have:=fR hd hx
  exact mK (by omega)
 ·have:(aH T).map (fun e=>iA e.1)=T.map (·.1):=by
   unfold aH;rw [List.map_map];rfl
  rw [this];exact h.nd
theorem aQd{n:Int}:dO (aH T) (.int .i64 n)=T.any fun p=>p.1 == n:=by
 unfold dO aH
 rw [List.any_map]
 congr 1
theorem bDw{n:Int}:fD (aH T) (.int .i64 n)=(T.find? fun p=>p.1 == n).map fun p=>blP p.2:=by
 unfold fD aH
 induction T with
 | nil=>rfl
 | cons p T ih =>
  rw [List.map_cons,List.find?_cons,List.find?_cons]
  have e:(decide (iA ((Value.int IntKind.i64 p.1,blP p.2):Value × PV).1=iA (Value.int IntKind.i64 n)))=(p.1 == n):=by
   show decide (p.1=n)=(p.1 == n)
   rw [Bool.eq_iff_iff];simp
  rw [e]
  cases p.1 == n with
  | true=>rfl
  | false=>exact ih
theorem cL.look(h:cL dl oc dc T)(hd:cH dc){x:List Int}(hx:x∈dc)(hh:dO (aH T) (.int .i64 (dN x))=true):fD (aH T) (.int .i64 (dN x))=some (blP (dY dl oc dc x)):=by
 rw [aQd] at hh
 rw [bDw]
 cases hf:T.find? fun p=>p.1 == dN x with
 | none =>
  obtain ⟨p,h1,h2⟩:=List.any_eq_true.1 hh
  exact absurd h2 (List.find?_eq_none.1 hf p h1)
 | some p =>
  have h1:=List.mem_of_find?_eq_some hf
  have h2:p.1=dN x:=by simpa using List.find?_some hf
  obtain ⟨y,hy,e1,e2⟩:=h.ok p h1
  rw [xK hd hy hx (e1.trans h2)] at e2
  rw [e2];rfl
theorem cL.again(h:cL dl oc dc T)(hd:cH dc){x:List Int}(hx:x∈dc):nM (aH T) (.int .i64 (dN x)) (blP (dY dl oc dc x))=aH T:=by
 have:∀ T':List (Int × Bool),(∀ p∈T',∃ x∈dc,dN x=p.1∧dY dl oc dc x=p.2)→nM (aH T') (.int .i64 (dN x)) (blP (dY dl oc dc x))=aH T':=by
  intro T'
  induction T' with
  | nil=>intro _;rfl
  | cons p T' ih =>
   intro hp
   show (if p.1=dN x then ((.int .i64 (dN x),blP (dY dl oc dc x))::aH T':List (Value × PV)) else (.int .i64 p.1,blP p.2)::nM (aH T') (.int .i64 (dN x)) (blP (dY dl oc dc x)))=(.int .i64 p.1,blP p.2)::aH T'
   by_cases e:p.1=dN x
   ·rw [if_pos e]
    obtain ⟨y,hy,e1,e2⟩:=hp p (List.mem_cons_self ..)
    rw [xK hd hy hx (e1.trans e)] at e2
    rw [e,e2]
   ·rw [if_neg e,ih fun q hq=>hp q (List.mem_cons_of_mem _ hq)]
 exact this T h.ok
theorem cL.put(h:cL dl oc dc T){x:List Int}(hx:x∈dc)(hh:dO (aH T) (.int .i64 (dN x))=false):cL dl oc dc (T++[(dN x,dY dl oc dc x)]):=by
 rw [aQd] at hh
 refine ⟨?_,fun p hp => ?_⟩
 ·rw [List.map_append,List.nodup_append]
  refine ⟨h.nd,by simp,fun a ha b hb e => ?_⟩
  simp only [List.map_cons,List.map_nil,List.mem_singleton] at hb
  obtain ⟨p,hp,rfl⟩:=List.mem_map.1 ha
  have:=List.any_eq_false.1 hh p hp
  rw [e,hb] at this
  simp at this
 ·rcases List.mem_append.1 hp with hp | hp
  ·exact h.ok p hp
  ·rw [List.mem_singleton.1 hp]
   exact ⟨x,hx,rfl,rfl⟩
end
end
section

noncomputable abbrev fB:Code:=sub (cd Tryz.f154) [1,1,1,0,1,0,0]
noncomputable abbrev gA:Code:=sub (cd Tryz.f153) [1,0,1,0,0]
abbrev pS(dl:Int)(sk dc:List (List Int)):AV := .rp (aK dl sk dc) 0
abbrev dE(dl:Int)(sk dc:List (List Int))(ov:PV)(T:List (Int × Bool)):Mem:=[some (.box 130 [(pS dl sk dc)]),some (.box 33 [(.p ov)]),some (.box 139 [(.fn 154 [] [(.ptr 4 0),(.ptr 5 0),(.ptr 0 0),(.ptr 2 0)]),(.fn 156 [] [(.ptr 6 0)]),(.fn 157 [] [(.ptr 2 0),(.ptr 1 0)]),(.fn 160 [] [(.ptr 2 0)]),(.fn 158 [] [(.ptr 6 0)])]),some (.mp (aH T) T.length),some (.box 207 [(.mp 3)]),some (.box 124 [(.fn 146 [(pS dl sk dc)] [])]),some (.box 209 [(.fn 153 [] [(.ptr 0 0),(.ptr 2 0)])])]
abbrev gS:AV:=(.agg [(.fn 154 [] [(.ptr 4 0),(.ptr 5 0),(.ptr 0 0),(.ptr 2 0)]),(.fn 156 [] [(.ptr 6 0)]),(.fn 157 [] [(.ptr 2 0),(.ptr 1 0)]),(.fn 160 [] [(.ptr 2 0)]),(.fn 158 [] [(.ptr 6 0)])])
abbrev vB0(dl:Int)(sk dc:List (List Int)):AO:=.box 130 [.rp (aK dl sk dc) 0]
abbrev vB2:AO:=.box 139 [(.fn 154 [] [(.ptr 4 0),(.ptr 5 0),(.ptr 0 0),(.ptr 2 0)]),(.fn 156 [] [(.ptr 6 0)]),(.fn 157 [] [(.ptr 2 0),(.ptr 1 0)]),(.fn 160 [] [(.ptr 2 0)]),(.fn 158 [] [(.ptr 6 0)])]
abbrev vB5(dl:Int)(sk dc:List (List Int)):AO:=.box 124 [.fn 146 [.rp (aK dl sk dc) 0] []]
abbrev vB6:AO:=.box 209 [(.fn 153 [] [(.ptr 0 0),(.ptr 2 0)])]
abbrev vU(dl:Int)(sk dc:List (List Int))(ov:PV)(T:List (Int × Bool)):Upd:=[(0,vB0 dl sk dc),(1,.box 33 [.p ov]),(2,vB2),(3,.mp (aH T) T.length),(4,.box 207 [.mp 3]),(5,vB5 dl sk dc),(6,vB6)]
abbrev pT(dl:Int)(sk dc:List (List Int))(ov:PV)(x:List Int)(b:Bool)(T T2:List (Int × Bool)):Prop:=FMM Tryz.prog 154 [.p (.agg (x.map aA)),.ptr 4 0,.ptr 5 0,.ptr 0 0,.ptr 2 0] (dE dl sk dc ov T) (.p (blP b)) (dE dl sk dc ov T2)
abbrev bRx(g:Nat)(dl:Int)(sk dc:List (List Int))(ov:PV)(x z:List Int)(b:Bool)(T T2:List (Int × Bool)):Prop:=FMM Tryz.prog 153 [.p (.agg (x.map aA)),.fn g [] [],.ptr 0 0,.ptr 2 0] (dE dl sk dc ov T) (.tup [.p (.agg (z.map aA)),.p (blP b)]) (dE dl sk dc ov T2)
abbrev aIy(dl:Int)(sk dc:List (List Int))(ov:PV)(x z:List Int)(b:Bool)(T T2:List (Int × Bool)):Prop:=FMM Tryz.prog 156 [.p (.agg (x.map aA)),.ptr 6 0] (dE dl sk dc ov T) (.tup [.p (.agg (z.map aA)),.p (blP b)]) (dE dl sk dc ov T2)
abbrev bRy(dl:Int)(sk dc:List (List Int))(ov:PV)(x z:List Int)(b:Bool)(T T2:List (Int × Bool)):Prop:=FMM Tryz.prog 158 [.p (.agg (x.map aA)),.ptr 6 0] (dE dl sk dc ov T) (.tup [.p (.agg (z.map aA)),.p (blP b)]) (dE dl sk dc ov T2)
abbrev bJb(dl:Int)(sk dc:List (List Int))(ov:PV)(x:List Int)(b:Bool)(T T2:List (Int × Bool)):Prop:=FMM Tryz.prog 157 [.p (.agg (x.map aA)),.ptr 2 0,.ptr 1 0] (dE dl sk dc ov T) (.p (blP b)) (dE dl sk dc ov T2)
abbrev xA(dl:Int)(sk dc:List (List Int))(ov:PV)(x:List Int)(m:Int)(T T2:List (Int × Bool)):Prop:=FMM Tryz.prog 160 [.p (.agg (x.map aA)),.ptr 2 0] (dE dl sk dc ov T) (.p (aA m)) (dE dl sk dc ov T2)
theorem bJc{k:Int}(h0:k=(8:Int)){base:Nat}:FV Tryz.prog 155 [(.p (aA k))] base (.p (blP true)) []:=by
 exact FV.fin Tryz.func155 rfl (o:=[bT,bT,bT]) (l:=[_,_,_]) (by kernel_rfl) (gc (bE h0) (gc (bE h0) (gc (bE h0) gn)))
theorem bJd{k:Int}{r0:Bool}(h0:k≠(8:Int))(er0:r0=(k == (9:Int))){base:Nat}:FV Tryz.prog 155 [(.p (aA k))] base (.p (blP r0)) []:=by
 subst er0
 exact FV.fin Tryz.func155 rfl (o:=[bF,bF,bF]) (l:=[_,_,_]) (by kernel_rfl) (gc (aU h0) (gc (aU h0) (gc (aU h0) gn)))
theorem bJe{k:Int}{r0:Bool}(er0:r0=(k == (6:Int))){base:Nat}:FV Tryz.prog 159 [(.p (aA k))] base (.p (blP r0)) []:=by
 subst er0
 exact FV.fin Tryz.func159 rfl (o:=[]) (l:=[]) (by kernel_rfl) (gn)
theorem bRz{k:Int}(h0:k=(4:Int)){base:Nat}:FV Tryz.prog 148 [(.p (aA k))] base (.p (blP true)) []:=by
 exact FV.fin Tryz.func148 rfl (o:=[bT,bT,bT]) (l:=[_,_,_]) (by kernel_rfl) (gc (bE h0) (gc (bE h0) (gc (bE h0) gn)))
theorem bSa{k:Int}{r0:Bool}(h0:k≠(4:Int))(er0:r0=(k == (7:Int))){base:Nat}:FV Tryz.prog 148 [(.p (aA k))] base (.p (blP r0)) []:=by
 subst er0
 exact FV.fin Tryz.func148 rfl (o:=[bF,bF,bF]) (l:=[_,_,_]) (by kernel_rfl) (gc (aU h0) (gc (aU h0) (gc (aU h0) gn)))
theorem mE(k:Int){base:Nat}:FV Tryz.prog 155 [.p (aA k)] base (.p (blP (cW k))) []:=by
 by_cases h:k=8
 ·rw [show cW k=true by simp [cW,h]];exact bJc h
 ·exact bJd h (by simp [cW,h])
theorem aFn(k:Int){base:Nat}:FV Tryz.prog 159 [.p (aA k)] base (.p (blP (k == 6))) []:=bJe rfl
theorem vH(k:Int){base:Nat}:FV Tryz.prog 148 [.p (aA k)] base (.p (blP (gC k))) []:=by
 by_cases h:k=4
 ·rw [show gC k=true by simp [gC,h]];exact bRz h
 ·exact bSa h (by simp [gC,h])
theorem bSb{dl:Int}{sk dc:List (List Int)}{x0 x1 x2 x3 x4 x5:Int}{r0:Bool}(h0:(gC x1)=true)(er0:r0=(decide (x2 > dl))){base:Nat}:FV Tryz.prog 146 [(.rp (aK dl sk dc) 0),(.p (dcE x0 x1 x2 x3 x4 x5))] base (.p (blP r0)) []:=by
 subst er0
 exact FV.fin Tryz.func146 rfl (o:=[.c (.p (blP (gC x1))) [],bT,bT,bT,bT,bT,bT,bT,.x (aA dl),bT,bT]) (l:=[_,_,(aK dl sk dc)[0]? = some (aA dl),_,_,_,_,_,_,_,_]) (by kernel_rfl) (gc h0 (gc h0 (gc rfl (gc h0 (gc h0 (gc h0 (gc h0 (gc h0 (gc h0 (gc h0 (gc (fk 1 (vH x1) rfl) gn)))))))))))
theorem bSc{dl:Int}{sk dc:List (List Int)}{x0 x1 x2 x3 x4 x5:Int}(h0:(gC x1)=false){base:Nat}:FV Tryz.prog 146 [(.rp (aK dl sk dc) 0),(.p (dcE x0 x1 x2 x3 x4 x5))] base (.p (blP false)) []:=by
 exact FV.fin Tryz.func146 rfl (o:=[.c (.p (blP (gC x1))) [],bF,bF,bF,bF,bF,bF,bF,bF,bF]) (l:=[_,_,_,_,_,_,_,_,_,_]) (by kernel_rfl) (gc h0 (gc h0 (gc h0 (gc h0 (gc h0 (gc h0 (gc h0 (gc h0 (gc h0 (gc (fk 1 (vH x1) rfl) gn))))))))))
theorem aFo(dl:Int)(sk dc:List (List Int))(x0 x1 x2 x3 x4 x5:Int){base:Nat}:FV Tryz.prog 146 [pS dl sk dc,.p (.agg [aA x0,aA x1,aA x2,aA x3,aA x4,aA x5])] base (.p (blP (mF dl [x0,x1,x2,x3,x4,x5]))) []:=by
 cases h:gC x1 with
 | true=>exact bSb h (by show (gC x1 && decide (dl<x2))=_;rw [h];rfl)
 | false=>rw [show mF dl [x0,x1,x2,x3,x4,x5]=false by show (gC x1 && decide (dl<x2))=_;rw [h];rfl];exact bSc h
abbrev qS(ov:PV)(n:Int)(b:Bool):Prop:=∀ base:Nat,FV Tryz.prog 52 [.p ov,.p (aA n)] base (.p (blP b)) []
def cU(dl:Int)(sk:List (List Int))(dc:List (List Int))(ov:PV)(i:Nat)(l:List (List Int))(n:Nat)(te:List (Value × PV))(tk:Nat)(c0:Int)(c1:Int)(c2:Int)(c3:Int)(c4:Int)(c5:Int):St:=⟨fr 35 [(1,(.fn 155 [] [])),(3,(.ptr 2 0)),(6,(.ptr 7 0)),(16,(.p (.sl l.length (l.flatten.map aA)))),(17,(.p (aA (n:Int)))),(18,(.p (aA (i:Int))))],[some (vB0 dl sk dc),some (.box 33 [(.p ov)]),some vB2,some (.mp te tk),some (.box 207 [(.mp 3)]),some (vB5 dl sk dc),some vB6,some (.box 44 [(.p (aA c0)),(.p (aA c1)),(.p (aA c2)),(.p (aA c3)),(.p (aA c4)),(.p (aA c5))])]⟩
theorem bJf{dl:Int}{sk dc:List (List Int)}{ov:PV}{T:List (Int × Bool)}{x0 x1 x2 x3 x4 x5:Int}{y0:List (List Int)}{i'1:Nat}{l'2:List (List Int)}{n'3:Nat}{t'4:List (Int × Bool)}{c0'5 c1'6 c2'7 c3'8 c4'9 c5'10:Int}(h0:cJ .i64 (abE dc) (.int .i64 x0))(h1:(dO (abE dc) (.int .i64 x0))=true)(h2:fD (abE dc) (.int .i64 x0)=some (.sl y0.length (y0.flatten.map aA)))(hl3:aF Tryz.prog 7 gA (cU dl sk dc ov 0 y0 y0.length (aH T) T.length (0:Int) (0:Int) (0:Int) (0:Int) (0:Int) (0:Int)) (.exit 0) (cU dl sk dc ov i'1 l'2 n'3 (aH t'4) t'4.length c0'5 c1'6 c2'7 c3'8 c4'9 c5'10)):FMM Tryz.prog 153 [(.p (dcE x0 x1 x2 x3 x4 x5)),(.fn 155 [] []),(.ptr 0 0),(.ptr 2 0)] (dE dl sk dc ov T) (.tup [(.p (dcE 0 0 0 0 0 0)),(.p (blP false))]) (dE dl sk dc ov t'4):=by
 exact FMM.fin (k:=7) (g:=⟨[],[],[],[]⟩) rfl Tryz.func153 rfl (o:=[.x (.mp (abE dc)),bT,.x (.sl y0.length (y0.flatten.map aA)),.k 1 ⟨(rng [(0,1),(2,1),(4,2),(7,9),(19,15)]),[8],[],[]⟩ (.exit 0) (cU dl sk dc ov i'1 l'2 n'3 (aH t'4) t'4.length c0'5 c1'6 c2'7 c3'8 c4'9 c5'10)]) (l:=[_,_,_,_,(aK dl sk dc)[4]? = some (.mp (abE dc))]) (by kernel_rfl) (gc hl3.code (gc h2 (gc h1 (gc h0 (gc rfl gn)))))
theorem bJg{dl:Int}{sk dc:List (List Int)}{ov:PV}{T:List (Int × Bool)}{x0 x1 x2 x3 x4 x5:Int}{y0:List (List Int)}{i'1:Nat}{l'2:List (List Int)}{n'3:Nat}{t'4:List (Int × Bool)}{c0'5 c1'6 c2'7 c3'8 c4'9 c5'10:Int}(h0:cJ .i64 (abE dc) (.int .i64 x0))(h1:(dO (abE dc) (.int .i64 x0))=true)(h2:fD (abE dc) (.int .i64 x0)=some (.sl y0.length (y0.flatten.map aA)))(hl3:aF Tryz.prog 7 gA (cU dl sk dc ov 0 y0 y0.length (aH T) T.length (0:Int) (0:Int) (0:Int) (0:Int) (0:Int) (0:Int)) .ret (bG (cU dl sk dc ov i'1 l'2 n'3 (aH t'4) t'4.length c0'5 c1'6 c2'7 c3'8 c4'9 c5'10) [(7,(.kb true))])):FMM Tryz.prog 153 [(.p (dcE x0 x1 x2 x3 x4 x5)),(.fn 155 [] []),(.ptr 0 0),(.ptr 2 0)] (dE dl sk dc ov T) (.tup [(.p (dcE c0'5 c1'6 c2'7 c3'8 c4'9 c5'10)),(.p (blP true))]) (dE dl sk dc ov t'4):=by
 exact FMM.fin (k:=7) (g:=⟨[],[],[],[]⟩) rfl Tryz.func153 rfl (o:=[.x (.mp (abE dc)),bT,.x (.sl y0.length (y0.flatten.map aA)),.k 1 ⟨(rng [(0,1),(2,1),(4,2),(7,9),(19,15)]),[8],[],[]⟩ .ret (bG (cU dl sk dc ov i'1 l'2 n'3 (aH t'4) t'4.length c0'5 c1'6 c2'7 c3'8 c4'9 c5'10) [(7,(.kb true))])]) (l:=[_,_,_,_,(aK dl sk dc)[4]? = some (.mp (abE dc))]) (by kernel_rfl) (gc hl3.code (gc h2 (gc h1 (gc h0 (gc rfl gn)))))
theorem bJh{dl:Int}{sk dc:List (List Int)}{ov:PV}{T:List (Int × Bool)}{x0 x1 x2 x3 x4 x5:Int}{i'0:Nat}{l'1:List (List Int)}{n'2:Nat}{t'3:List (Int × Bool)}{c0'4 c1'5 c2'6 c3'7 c4'8 c5'9:Int}(h0:cJ .i64 (abE dc) (.int .i64 x0))(h1:(dO (abE dc) (.int .i64 x0))=false)(hl2:aF Tryz.prog 7 gA (cU dl sk dc ov 0 ([]:List (List Int)) 0 (aH T) T.length (0:Int) (0:Int) (0:Int) (0:Int) (0:Int) (0:Int)) (.exit 0) (cU dl sk dc ov i'0 l'1 n'2 (aH t'3) t'3.length c0'4 c1'5 c2'6 c3'7 c4'8 c5'9)):FMM Tryz.prog 153 [(.p (dcE x0 x1 x2 x3 x4 x5)),(.fn 155 [] []),(.ptr 0 0),(.ptr 2 0)] (dE dl sk dc ov T) (.tup [(.p (dcE 0 0 0 0 0 0)),(.p (blP false))]) (dE dl sk dc ov t'3):=by
 exact FMM.fin (k:=7) (g:=⟨[],[],[],[]⟩) rfl Tryz.func153 rfl (o:=[.x (.mp (abE dc)),bF,.k 1 ⟨(rng [(0,1),(2,1),(4,2),(7,9),(19,15)]),[8],[],[(16,99999)]⟩ (.exit 0) (cU dl sk dc ov i'0 l'1 n'2 (aH t'3) t'3.length c0'4 c1'5 c2'6 c3'7 c4'8 c5'9)]) (l:=[_,_,_,(aK dl sk dc)[4]? = some (.mp (abE dc))]) (by kernel_rfl) (gc hl2.code (gc h1 (gc h0 (gc rfl gn))))
theorem aNc{dl:Int}{sk dc:List (List Int)}{ov:PV}{i:Nat}{l:List (List Int)}{n:Nat}{t:List (Int × Bool)}{c0 c1 c2 c3 c4 c5 y100 y101 y102 y103 y104 y105:Int}{b106:Bool}{T107 t':List (Int × Bool)}(h0:(i:Int)<(n:Int))(h1:l[i]? = some [y100,y101,y102,y103,y104,y105])(h2:uni 6 l)(h3:(cW y101)=true)(h4:pT dl sk dc ov [y100,y101,y102,y103,y104,y105] b106 t T107)(h5:b106=true)(et'e:aH t'=(aH T107))(et'k:t'.length=T107.length):aC Tryz.prog 7 gA (cU dl sk dc ov i l n (aH t) t.length c0 c1 c2 c3 c4 c5) .ret (bG (cU dl sk dc ov i l n (aH t') t'.length y100 y101 y102 y103 y104 y105) [(7,(.kb true))]):=by
 have raw:aC Tryz.prog 7 gA (cU dl sk dc ov i l n (aH t) t.length c0 c1 c2 c3 c4 c5) .ret (bG (cU dl sk dc ov i l n (aH T107) T107.length y100 y101 y102 y103 y104 y105) [(7,(.kb true))]):=aC.fin (g:=⟨(rng [(0,1),(2,1),(4,2),(8,8),(19,15)]),[7],[],[]⟩) (o:=[bT,.x (dcE y100 y101 y102 y103 y104 y105),.c (.p (blP (cW y101))) [],bT,bT,bT,bT,.c (.p (blP b106)) (vU dl sk dc ov T107),bT,bT]) (l:=[_,_,FC Tryz.prog 154 [(.p (dcE y100 y101 y102 y103 y104 y105)),(.ptr 4 0),(.ptr 5 0),(.ptr 0 0),(.ptr 2 0)] [(4,(.box 207 [(.mp 3)])),(5,(vB5 dl sk dc)),(0,(vB0 dl sk dc)),(2,vB2),(3,(.mp (aH t) t.length)),(6,vB6),(1,(.box 33 [(.p ov)]))] 9 (.p (blP b106)) (vU dl sk dc ov T107),_,_,_,_,_,_,_,0≤(i:Int)∧(i:Int)<(l.length:Int)∧(i*6)<(l.flatten.map aA).length,_]) (by kernel_rfl) (gc h5 (gc h3 (gc (FMM.fc (ids:=[0,1,2,3,4,5,6]) h4 (by kernel_rfl)) (gc h3 (gc h3 (gc h3 (gc h3 (gc (fk 9 (mE y101) rfl) (gc (aQ (i:=i) h2 h1) (gc (bD (i:=i) h2 h1) (gc (bB (k:=6) (i:=(i:Int)) (by decide) h2 (Int.natCast_nonneg _) h1) (gc (aL h0) gn))))))))))))
 exact raw.cast (by rw [et'e,et'k])
theorem aNd{dl:Int}{sk dc:List (List Int)}{ov:PV}{i:Nat}{l:List (List Int)}{n:Nat}{t:List (Int × Bool)}{c0 c1 c2 c3 c4 c5 y100 y101 y102 y103 y104 y105:Int}{b106:Bool}{T107:List (Int × Bool)}{i':Nat}{t':List (Int × Bool)}(h0:(i:Int)<(n:Int))(h1:l[i]? = some [y100,y101,y102,y103,y104,y105])(h2:uni 6 l)(h3:(cW y101)=true)(h4:pT dl sk dc ov [y100,y101,y102,y103,y104,y105] b106 t T107)(h5:b106=false)(h6:inR (((i+1):Nat):Int))(ei':i'=(i+1))(et'e:aH t'=(aH T107))(et'k:t'.length=T107.length):aC Tryz.prog 7 gA (cU dl sk dc ov i l n (aH t) t.length c0 c1 c2 c3 c4 c5) .normal (cU dl sk dc ov i' l n (aH t') t'.length c0 c1 c2 c3 c4 c5):=by
 subst ei'
 have raw:aC Tryz.prog 7 gA (cU dl sk dc ov i l n (aH t) t.length c0 c1 c2 c3 c4 c5) .normal (cU dl sk dc ov (i+1) l n (aH T107) T107.length c0 c1 c2 c3 c4 c5):=aC.fin (g:=⟨(rng [(0,1),(2,1),(4,2),(7,9),(19,15)]),[7],[],[]⟩) (o:=[bT,.x (dcE y100 y101 y102 y103 y104 y105),.c (.p (blP (cW y101))) [],bT,bT,bT,bT,.c (.p (blP b106)) (vU dl sk dc ov T107),bT,bF]) (l:=[_,_,_,FC Tryz.prog 154 [(.p (dcE y100 y101 y102 y103 y104 y105)),(.ptr 4 0),(.ptr 5 0),(.ptr 0 0),(.ptr 2 0)] [(4,(.box 207 [(.mp 3)])),(5,(vB5 dl sk dc)),(0,(vB0 dl sk dc)),(2,vB2),(3,(.mp (aH t) t.length)),(6,vB6),(1,(.box 33 [(.p ov)]))] 9 (.p (blP b106)) (vU dl sk dc ov T107),_,_,_,_,_,_,_,0≤(i:Int)∧(i:Int)<(l.length:Int)∧(i*6)<(l.flatten.map aA).length,_]) (by kernel_rfl) (gc h6 (gc h5 (gc h3 (gc (FMM.fc (ids:=[0,1,2,3,4,5,6]) h4 (by kernel_rfl)) (gc h3 (gc h3 (gc h3 (gc h3 (gc (fk 9 (mE y101) rfl) (gc (aQ (i:=i) h2 h1) (gc (bD (i:=i) h2 h1) (gc (bB (k:=6) (i:=(i:Int)) (by decide) h2 (Int.natCast_nonneg _) h1) (gc (aL h0) gn)))))))))))))
 exact raw.cast (by rw [et'e,et'k])
theorem aNe{dl:Int}{sk dc:List (List Int)}{ov:PV}{i:Nat}{l:List (List Int)}{n:Nat}{t:List (Int × Bool)}{c0 c1 c2 c3 c4 c5 y100 y101 y102 y103 y104 y105:Int}{i':Nat}(h0:(i:Int)<(n:Int))(h1:l[i]? = some [y100,y101,y102,y103,y104,y105])(h2:uni 6 l)(h3:(cW y101)=false)(h4:inR (((i+1):Nat):Int))(ei':i'=(i+1)):aC Tryz.prog 7 gA (cU dl sk dc ov i l n (aH t) t.length c0 c1 c2 c3 c4 c5) .normal (cU dl sk dc ov i' l n (aH t) t.length c0 c1 c2 c3 c4 c5):=by
 subst ei'
 exact aC.fin (g:=⟨(rng [(0,1),(2,1),(4,2),(7,9),(19,15)]),[7],[],[]⟩) (o:=[bT,.x (dcE y100 y101 y102 y103 y104 y105),.c (.p (blP (cW y101))) [],bF,bF,bF,bF,bF]) (l:=[_,_,_,_,_,_,_,_,_,0≤(i:Int)∧(i:Int)<(l.length:Int)∧(i*6)<(l.flatten.map aA).length,_]) (by kernel_rfl) (gc h4 (gc h3 (gc h3 (gc h3 (gc h3 (gc h3 (gc (fk 9 (mE y101) rfl) (gc (aQ (i:=i) h2 h1) (gc (bD (i:=i) h2 h1) (gc (bB (k:=6) (i:=(i:Int)) (by decide) h2 (Int.natCast_nonneg _) h1) (gc (aL h0) gn)))))))))))
theorem aNf{dl:Int}{sk dc:List (List Int)}{ov:PV}{i:Nat}{l:List (List Int)}{n:Nat}{t:List (Int × Bool)}{c0 c1 c2 c3 c4 c5:Int}(h0:(n:Int)≤(i:Int)):aC Tryz.prog 7 gA (cU dl sk dc ov i l n (aH t) t.length c0 c1 c2 c3 c4 c5) (.exit 0) (cU dl sk dc ov i l n (aH t) t.length c0 c1 c2 c3 c4 c5):=by
 exact aC.fin (g:=⟨(rng [(0,1),(2,1),(4,2),(7,9),(19,15)]),[7],[],[]⟩) (o:=[bF]) (l:=[_]) (by kernel_rfl) (gc (aE h0) gn)
def cV(dl:Int)(sk:List (List Int))(dc:List (List Int))(ov:PV)(i:Nat)(l:List (List Int))(n:Nat)(te:List (Value × PV))(tk:Nat)(c0:Int)(c1:Int)(c2:Int)(c3:Int)(c4:Int)(c5:Int):St:=⟨fr 35 [(1,(.fn 159 [] [])),(3,(.ptr 2 0)),(6,(.ptr 7 0)),(16,(.p (.sl l.length (l.flatten.map aA)))),(17,(.p (aA (n:Int)))),(18,(.p (aA (i:Int))))],[some (vB0 dl sk dc),some (.box 33 [(.p ov)]),some vB2,some (.mp te tk),some (.box 207 [(.mp 3)]),some (vB5 dl sk dc),some vB6,some (.box 44 [(.p (aA c0)),(.p (aA c1)),(.p (aA c2)),(.p (aA c3)),(.p (aA c4)),(.p (aA c5))])]⟩
theorem bJi{dl:Int}{sk dc:List (List Int)}{ov:PV}{T:List (Int × Bool)}{x0 x1 x2 x3 x4 x5:Int}{y0:List (List Int)}{i'1:Nat}{l'2:List (List Int)}{n'3:Nat}{t'4:List (Int × Bool)}{c0'5 c1'6 c2'7 c3'8 c4'9 c5'10:Int}(h0:cJ .i64 (abE dc) (.int .i64 x0))(h1:(dO (abE dc) (.int .i64 x0))=true)(h2:fD (abE dc) (.int .i64 x0)=some (.sl y0.length (y0.flatten.map aA)))(hl3:aF Tryz.prog 7 gA (cV dl sk dc ov 0 y0 y0.length (aH T) T.length (0:Int) (0:Int) (0:Int) (0:Int) (0:Int) (0:Int)) (.exit 0) (cV dl sk dc ov i'1 l'2 n'3 (aH t'4) t'4.length c0'5 c1'6 c2'7 c3'8 c4'9 c5'10)):FMM Tryz.prog 153 [(.p (dcE x0 x1 x2 x3 x4 x5)),(.fn 159 [] []),(.ptr 0 0),(.ptr 2 0)] (dE dl sk dc ov T) (.tup [(.p (dcE 0 0 0 0 0 0)),(.p (blP false))]) (dE dl sk dc ov t'4):=by
 exact FMM.fin (k:=7) (g:=⟨[],[],[],[]⟩) rfl Tryz.func153 rfl (o:=[.x (.mp (abE dc)),bT,.x (.sl y0.length (y0.flatten.map aA)),.k 1 ⟨(rng [(0,1),(2,1),(4,2),(7,9),(19,15)]),[8],[],[]⟩ (.exit 0) (cV dl sk dc ov i'1 l'2 n'3 (aH t'4) t'4.length c0'5 c1'6 c2'7 c3'8 c4'9 c5'10)]) (l:=[_,_,_,_,(aK dl sk dc)[4]? = some (.mp (abE dc))]) (by kernel_rfl) (gc hl3.code (gc h2 (gc h1 (gc h0 (gc rfl gn)))))
theorem bJj{dl:Int}{sk dc:List (List Int)}{ov:PV}{T:List (Int × Bool)}{x0 x1 x2 x3 x4 x5:Int}{y0:List (List Int)}{i'1:Nat}{l'2:List (List Int)}{n'3:Nat}{t'4:List (Int × Bool)}{c0'5 c1'6 c2'7 c3'8 c4'9 c5'10:Int}(h0:cJ .i64 (abE dc) (.int .i64 x0))(h1:(dO (abE dc) (.int .i64 x0))=true)(h2:fD (abE dc) (.int .i64 x0)=some (.sl y0.length (y0.flatten.map aA)))(hl3:aF Tryz.prog 7 gA (cV dl sk dc ov 0 y0 y0.length (aH T) T.length (0:Int) (0:Int) (0:Int) (0:Int) (0:Int) (0:Int)) .ret (bG (cV dl sk dc ov i'1 l'2 n'3 (aH t'4) t'4.length c0'5 c1'6 c2'7 c3'8 c4'9 c5'10) [(7,(.kb true))])):FMM Tryz.prog 153 [(.p (dcE x0 x1 x2 x3 x4 x5)),(.fn 159 [] []),(.ptr 0 0),(.ptr 2 0)] (dE dl sk dc ov T) (.tup [(.p (dcE c0'5 c1'6 c2'7 c3'8 c4'9 c5'10)),(.p (blP true))]) (dE dl sk dc ov t'4):=by
 exact FMM.fin (k:=7) (g:=⟨[],[],[],[]⟩) rfl Tryz.func153 rfl (o:=[.x (.mp (abE dc)),bT,.x (.sl y0.length (y0.flatten.map aA)),.k 1 ⟨(rng [(0,1),(2,1),(4,2),(7,9),(19,15)]),[8],[],[]⟩ .ret (bG (cV dl sk dc ov i'1 l'2 n'3 (aH t'4) t'4.length c0'5 c1'6 c2'7 c3'8 c4'9 c5'10) [(7,(.kb true))])]) (l:=[_,_,_,_,(aK dl sk dc)[4]? = some (.mp (abE dc))]) (by kernel_rfl) (gc hl3.code (gc h2 (gc h1 (gc h0 (gc rfl gn)))))
theorem bJk{dl:Int}{sk dc:List (List Int)}{ov:PV}{T:List (Int × Bool)}{x0 x1 x2 x3 x4 x5:Int}{i'0:Nat}{l'1:List (List Int)}{n'2:Nat}{t'3:List (Int × Bool)}{c0'4 c1'5 c2'6 c3'7 c4'8 c5'9:Int}(h0:cJ .i64 (abE dc) (.int .i64 x0))(h1:(dO (abE dc) (.int .i64 x0))=false)(hl2:aF Tryz.prog 7 gA (cV dl sk dc ov 0 ([]:List (List Int)) 0 (aH T) T.length (0:Int) (0:Int) (0:Int) (0:Int) (0:Int) (0:Int)) (.exit 0) (cV dl sk dc ov i'0 l'1 n'2 (aH t'3) t'3.length c0'4 c1'5 c2'6 c3'7 c4'8 c5'9)):FMM Tryz.prog 153 [(.p (dcE x0 x1 x2 x3 x4 x5)),(.fn 159 [] []),(.ptr 0 0),(.ptr 2 0)] (dE dl sk dc ov T) (.tup [(.p (dcE 0 0 0 0 0 0)),(.p (blP false))]) (dE dl sk dc ov t'3):=by
 exact FMM.fin (k:=7) (g:=⟨[],[],[],[]⟩) rfl Tryz.func153 rfl (o:=[.x (.mp (abE dc)),bF,.k 1 ⟨(rng [(0,1),(2,1),(4,2),(7,9),(19,15)]),[8],[],[(16,99999)]⟩ (.exit 0) (cV dl sk dc ov i'0 l'1 n'2 (aH t'3) t'3.length c0'4 c1'5 c2'6 c3'7 c4'8 c5'9)]) (l:=[_,_,_,(aK dl sk dc)[4]? = some (.mp (abE dc))]) (by kernel_rfl) (gc hl2.code (gc h1 (gc h0 (gc rfl gn))))
theorem aNg{dl:Int}{sk dc:List (List Int)}{ov:PV}{i:Nat}{l:List (List Int)}{n:Nat}{t:List (Int × Bool)}{c0 c1 c2 c3 c4 c5 y100 y101 y102 y103 y104 y105:Int}{b106:Bool}{T107 t':List (Int × Bool)}(h0:(i:Int)<(n:Int))(h1:l[i]? = some [y100,y101,y102,y103,y104,y105])(h2:uni 6 l)(h3:(y101 == 6)=true)(h4:pT dl sk dc ov [y100,y101,y102,y103,y104,y105] b106 t T107)(h5:b106=true)(et'e:aH t'=(aH T107))(et'k:t'.length=T107.length):aC Tryz.prog 7 gA (cV dl sk dc ov i l n (aH t) t.length c0 c1 c2 c3 c4 c5) .ret (bG (cV dl sk dc ov i l n (aH t') t'.length y100 y101 y102 y103 y104 y105) [(7,(.kb true))]):=by
 have raw:aC Tryz.prog 7 gA (cV dl sk dc ov i l n (aH t) t.length c0 c1 c2 c3 c4 c5) .ret (bG (cV dl sk dc ov i l n (aH T107) T107.length y100 y101 y102 y103 y104 y105) [(7,(.kb true))]):=aC.fin (g:=⟨(rng [(0,1),(2,1),(4,2),(8,8),(19,15)]),[7],[],[]⟩) (o:=[bT,.x (dcE y100 y101 y102 y103 y104 y105),.c (.p (blP (y101 == 6))) [],bT,bT,bT,bT,.c (.p (blP b106)) (vU dl sk dc ov T107),bT,bT]) (l:=[_,_,FC Tryz.prog 154 [(.p (dcE y100 y101 y102 y103 y104 y105)),(.ptr 4 0),(.ptr 5 0),(.ptr 0 0),(.ptr 2 0)] [(4,(.box 207 [(.mp 3)])),(5,(vB5 dl sk dc)),(0,(vB0 dl sk dc)),(2,vB2),(3,(.mp (aH t) t.length)),(6,vB6),(1,(.box 33 [(.p ov)]))] 9 (.p (blP b106)) (vU dl sk dc ov T107),_,_,_,_,_,_,_,0≤(i:Int)∧(i:Int)<(l.length:Int)∧(i*6)<(l.flatten.map aA).length,_]) (by kernel_rfl) (gc h5 (gc h3 (gc (FMM.fc (ids:=[0,1,2,3,4,5,6]) h4 (by kernel_rfl)) (gc h3 (gc h3 (gc h3 (gc h3 (gc (fk 9 (aFn y101) rfl) (gc (aQ (i:=i) h2 h1) (gc (bD (i:=i) h2 h1) (gc (bB (k:=6) (i:=(i:Int)) (by decide) h2 (Int.natCast_nonneg _) h1) (gc (aL h0) gn))))))))))))
 exact raw.cast (by rw [et'e,et'k])
theorem aNh{dl:Int}{sk dc:List (List Int)}{ov:PV}{i:Nat}{l:List (List Int)}{n:Nat}{t:List (Int × Bool)}{c0 c1 c2 c3 c4 c5 y100 y101 y102 y103 y104 y105:Int}{b106:Bool}{T107:List (Int × Bool)}{i':Nat}{t':List (Int × Bool)}(h0:(i:Int)<(n:Int))(h1:l[i]? = some [y100,y101,y102,y103,y104,y105])(h2:uni 6 l)(h3:(y101 == 6)=true)(h4:pT dl sk dc ov [y100,y101,y102,y103,y104,y105] b106 t T107)(h5:b106=false)(h6:inR (((i+1):Nat):Int))(ei':i'=(i+1))(et'e:aH t'=(aH T107))(et'k:t'.length=T107.length):aC Tryz.prog 7 gA (cV dl sk dc ov i l n (aH t) t.length c0 c1 c2 c3 c4 c5) .normal (cV dl sk dc ov i' l n (aH t') t'.length c0 c1 c2 c3 c4 c5):=by
 subst ei'
 have raw:aC Tryz.prog 7 gA (cV dl sk dc ov i l n (aH t) t.length c0 c1 c2 c3 c4 c5) .normal (cV dl sk dc ov (i+1) l n (aH T107) T107.length c0 c1 c2 c3 c4 c5):=aC.fin (g:=⟨(rng [(0,1),(2,1),(4,2),(7,9),(19,15)]),[7],[],[]⟩) (o:=[bT,.x (dcE y100 y101 y102 y103 y104 y105),.c (.p (blP (y101 == 6))) [],bT,bT,bT,bT,.c (.p (blP b106)) (vU dl sk dc ov T107),bT,bF]) (l:=[_,_,_,FC Tryz.prog 154 [(.p (dcE y100 y101 y102 y103 y104 y105)),(.ptr 4 0),(.ptr 5 0),(.ptr 0 0),(.ptr 2 0)] [(4,(.box 207 [(.mp 3)])),(5,(vB5 dl sk dc)),(0,(vB0 dl sk dc)),(2,vB2),(3,(.mp (aH t) t.length)),(6,vB6),(1,(.box 33 [(.p ov)]))] 9 (.p (blP b106)) (vU dl sk dc ov T107),_,_,_,_,_,_,_,0≤(i:Int)∧(i:Int)<(l.length:Int)∧(i*6)<(l.flatten.map aA).length,_]) (by kernel_rfl) (gc h6 (gc h5 (gc h3 (gc (FMM.fc (ids:=[0,1,2,3,4,5,6]) h4 (by kernel_rfl)) (gc h3 (gc h3 (gc h3 (gc h3 (gc (fk 9 (aFn y101) rfl) (gc (aQ (i:=i) h2 h1) (gc (bD (i:=i) h2 h1) (gc (bB (k:=6) (i:=(i:Int)) (by decide) h2 (Int.natCast_nonneg _) h1) (gc (aL h0) gn)))))))))))))
 exact raw.cast (by rw [et'e,et'k])
theorem aNi{dl:Int}{sk dc:List (List Int)}{ov:PV}{i:Nat}{l:List (List Int)}{n:Nat}{t:List (Int × Bool)}{c0 c1 c2 c3 c4 c5 y100 y101 y102 y103 y104 y105:Int}{i':Nat}(h0:(i:Int)<(n:Int))(h1:l[i]? = some [y100,y101,y102,y103,y104,y105])(h2:uni 6 l)(h3:(y101 == 6)=false)(h4:inR (((i+1):Nat):Int))(ei':i'=(i+1)):aC Tryz.prog 7 gA (cV dl sk dc ov i l n (aH t) t.length c0 c1 c2 c3 c4 c5) .normal (cV dl sk dc ov i' l n (aH t) t.length c0 c1 c2 c3 c4 c5):=by
 subst ei'
 exact aC.fin (g:=⟨(rng [(0,1),(2,1),(4,2),(7,9),(19,15)]),[7],[],[]⟩) (o:=[bT,.x (dcE y100 y101 y102 y103 y104 y105),.c (.p (blP (y101 == 6))) [],bF,bF,bF,bF,bF]) (l:=[_,_,_,_,_,_,_,_,_,0≤(i:Int)∧(i:Int)<(l.length:Int)∧(i*6)<(l.flatten.map aA).length,_]) (by kernel_rfl) (gc h4 (gc h3 (gc h3 (gc h3 (gc h3 (gc h3 (gc (fk 9 (aFn y101) rfl) (gc (aQ (i:=i) h2 h1) (gc (bD (i:=i) h2 h1) (gc (bB (k:=6) (i:=(i:Int)) (by decide) h2 (Int.natCast_nonneg _) h1) (gc (aL h0) gn)))))))))))
theorem aNj{dl:Int}{sk dc:List (List Int)}{ov:PV}{i:Nat}{l:List (List Int)}{n:Nat}{t:List (Int × Bool)}{c0 c1 c2 c3 c4 c5:Int}(h0:(n:Int)≤(i:Int)):aC Tryz.prog 7 gA (cV dl sk dc ov i l n (aH t) t.length c0 c1 c2 c3 c4 c5) (.exit 0) (cV dl sk dc ov i l n (aH t) t.length c0 c1 c2 c3 c4 c5):=by
 exact aC.fin (g:=⟨(rng [(0,1),(2,1),(4,2),(7,9),(19,15)]),[7],[],[]⟩) (o:=[bF]) (l:=[_]) (by kernel_rfl) (gc (aE h0) gn)
def bX(dl:Int)(sk:List (List Int))(dc:List (List Int))(ov:PV)(x0:Int)(x1:Int)(x2:Int)(x3:Int)(x4:Int)(x5:Int)(is:Bool)(i:Nat)(l:List (List Int))(n:Nat)(te:List (Value × PV))(tk:Nat):St:=⟨fr 79 [(1,(.ptr 4 0)),(4,(.ptr 2 0)),(5,(.ptr 7 0)),(6,(.kb false)),(9,(.p (blP is))),(32,(.p (.sl l.length (l.flatten.map aA)))),(33,(.p (aA (n:Int)))),(34,(.p (aA (i:Int))))],[some (vB0 dl sk dc),some (.box 33 [(.p ov)]),some vB2,some (.mp te tk),some (.box 207 [(.mp 3)]),some (vB5 dl sk dc),some vB6,some (.box 44 [(.p (aA x0)),(.p (aA x1)),(.p (aA x2)),(.p (aA x3)),(.p (aA x4)),(.p (aA x5))])]⟩
theorem bSd{dl:Int}{sk dc:List (List Int)}{ov:PV}{T:List (Int × Bool)}{x0 x1 x2 x3 x4 x5:Int}{y0:Bool}(h0:cJ .i64 (aH T) (.int .i64 x0))(h1:(dO (aH T) (.int .i64 x0))=true)(h2:fD (aH T) (.int .i64 x0)=some (blP y0)):FMM Tryz.prog 154 [(.p (dcE x0 x1 x2 x3 x4 x5)),(.ptr 4 0),(.ptr 5 0),(.ptr 0 0),(.ptr 2 0)] (dE dl sk dc ov T) (.p (blP y0)) (dE dl sk dc ov T):=by
 exact FMM.fin (k:=7) (g:=⟨[],[],[],[]⟩) rfl Tryz.func154 rfl (o:=[bT,.x (blP y0)]) (l:=[_,_,_]) (by kernel_rfl) (gc h2 (gc h1 (gc h0 gn)))
theorem bSe{dl:Int}{sk dc:List (List Int)}{ov:PV}{T:List (Int × Bool)}{x0 x1 x2 x3 x4 x5:Int}{y0:List (List Int)}{is'1:Bool}{i'2:Nat}{l'3:List (List Int)}{n'4:Nat}{t'5:List (Int × Bool)}(h0:cJ .i64 (aH T) (.int .i64 x0))(h1:(dO (aH T) (.int .i64 x0))=false)(h2:cJ .i64 (abE dc) (.int .i64 x0))(h3:(dO (abE dc) (.int .i64 x0))=true)(h4:fD (abE dc) (.int .i64 x0)=some (.sl y0.length (y0.flatten.map aA)))(hl5:aF Tryz.prog 7 fB (bX dl sk dc ov x0 x1 x2 x3 x4 x5 (!(mF dl [x0,x1,x2,x3,x4,x5])) 0 y0 y0.length (aH T) T.length) (.exit 0) (bX dl sk dc ov x0 x1 x2 x3 x4 x5 is'1 i'2 l'3 n'4 (aH t'5) t'5.length))(h6:cJ .i64 (aH t'5) (.int .i64 x0))(h7:(dO (aH t'5) (.int .i64 x0))=true):FMM Tryz.prog 154 [(.p (dcE x0 x1 x2 x3 x4 x5)),(.ptr 4 0),(.ptr 5 0),(.ptr 0 0),(.ptr 2 0)] (dE dl sk dc ov T) (.p (blP is'1)) [some (vB0 dl sk dc),some (.box 33 [(.p ov)]),some vB2,some (.mp (nM (aH t'5) (.int .i64 x0) (blP is'1)) t'5.length),some (.box 207 [(.mp 3)]),some (vB5 dl sk dc),some vB6]:=by
 exact FMM.fin (k:=7) (g:=⟨[],[],[],[]⟩) rfl Tryz.func154 rfl (o:=[bF,.c (.p (blP (mF dl [x0,x1,x2,x3,x4,x5]))) [],.x (.mp (abE dc)),bT,.x (.sl y0.length (y0.flatten.map aA)),.k 1 ⟨(rng [(0,1),(2,2),(7,2),(10,22),(35,39)]),[7],[],[]⟩ (.exit 0) (bX dl sk dc ov x0 x1 x2 x3 x4 x5 is'1 i'2 l'3 n'4 (aH t'5) t'5.length),bT]) (l:=[_,_,_,_,_,_,(aK dl sk dc)[4]? = some (.mp (abE dc)),_,_,_]) (by kernel_rfl) (gc h7 (gc h6 (gc hl5.code (gc h4 (gc h3 (gc h2 (gc rfl (gc (fk 8 (aFo dl sk dc x0 x1 x2 x3 x4 x5) rfl) (gc h1 (gc h0 gn))))))))))
theorem bSf{dl:Int}{sk dc:List (List Int)}{ov:PV}{T:List (Int × Bool)}{x0 x1 x2 x3 x4 x5:Int}{y0:List (List Int)}{is'1:Bool}{i'2:Nat}{l'3:List (List Int)}{n'4:Nat}{t'5:List (Int × Bool)}(h0:cJ .i64 (aH T) (.int .i64 x0))(h1:(dO (aH T) (.int .i64 x0))=false)(h2:cJ .i64 (abE dc) (.int .i64 x0))(h3:(dO (abE dc) (.int .i64 x0))=true)(h4:fD (abE dc) (.int .i64 x0)=some (.sl y0.length (y0.flatten.map aA)))(hl5:aF Tryz.prog 7 fB (bX dl sk dc ov x0 x1 x2 x3 x4 x5 (!(mF dl [x0,x1,x2,x3,x4,x5])) 0 y0 y0.length (aH T) T.length) (.exit 0) (bX dl sk dc ov x0 x1 x2 x3 x4 x5 is'1 i'2 l'3 n'4 (aH t'5) t'5.length))(h6:cJ .i64 (aH t'5) (.int .i64 x0))(h7:(dO (aH t'5) (.int .i64 x0))=false):FMM Tryz.prog 154 [(.p (dcE x0 x1 x2 x3 x4 x5)),(.ptr 4 0),(.ptr 5 0),(.ptr 0 0),(.ptr 2 0)] (dE dl sk dc ov T) (.p (blP is'1)) [some (vB0 dl sk dc),some (.box 33 [(.p ov)]),some vB2,some (.mp ((aH t'5)++[((.int .i64 x0),(blP is'1))]) (t'5.length+1)),some (.box 207 [(.mp 3)]),some (vB5 dl sk dc),some vB6]:=by
 exact FMM.fin (k:=7) (g:=⟨[],[],[],[]⟩) rfl Tryz.func154 rfl (o:=[bF,.c (.p (blP (mF dl [x0,x1,x2,x3,x4,x5]))) [],.x (.mp (abE dc)),bT,.x (.sl y0.length (y0.flatten.map aA)),.k 1 ⟨(rng [(0,1),(2,2),(7,2),(10,22),(35,39)]),[7],[],[]⟩ (.exit 0) (bX dl sk dc ov x0 x1 x2 x3 x4 x5 is'1 i'2 l'3 n'4 (aH t'5) t'5.length),bF]) (l:=[_,_,_,_,_,_,(aK dl sk dc)[4]? = some (.mp (abE dc)),_,_,_]) (by kernel_rfl) (gc h7 (gc h6 (gc hl5.code (gc h4 (gc h3 (gc h2 (gc rfl (gc (fk 8 (aFo dl sk dc x0 x1 x2 x3 x4 x5) rfl) (gc h1 (gc h0 gn))))))))))
theorem bSg{dl:Int}{sk dc:List (List Int)}{ov:PV}{T:List (Int × Bool)}{x0 x1 x2 x3 x4 x5:Int}{is'0:Bool}{i'1:Nat}{l'2:List (List Int)}{n'3:Nat}{t'4:List (Int × Bool)}(h0:cJ .i64 (aH T) (.int .i64 x0))(h1:(dO (aH T) (.int .i64 x0))=false)(h2:cJ .i64 (abE dc) (.int .i64 x0))(h3:(dO (abE dc) (.int .i64 x0))=false)(hl4:aF Tryz.prog 7 fB (bX dl sk dc ov x0 x1 x2 x3 x4 x5 (!(mF dl [x0,x1,x2,x3,x4,x5])) 0 ([]:List (List Int)) 0 (aH T) T.length) (.exit 0) (bX dl sk dc ov x0 x1 x2 x3 x4 x5 is'0 i'1 l'2 n'3 (aH t'4) t'4.length))(h5:cJ .i64 (aH t'4) (.int .i64 x0))(h6:(dO (aH t'4) (.int .i64 x0))=true):FMM Tryz.prog 154 [(.p (dcE x0 x1 x2 x3 x4 x5)),(.ptr 4 0),(.ptr 5 0),(.ptr 0 0),(.ptr 2 0)] (dE dl sk dc ov T) (.p (blP is'0)) [some (vB0 dl sk dc),some (.box 33 [(.p ov)]),some vB2,some (.mp (nM (aH t'4) (.int .i64 x0) (blP is'0)) t'4.length),some (.box 207 [(.mp 3)]),some (vB5 dl sk dc),some vB6]:=by
 exact FMM.fin (k:=7) (g:=⟨[],[],[],[]⟩) rfl Tryz.func154 rfl (o:=[bF,.c (.p (blP (mF dl [x0,x1,x2,x3,x4,x5]))) [],.x (.mp (abE dc)),bF,.k 1 ⟨(rng [(0,1),(2,2),(7,2),(10,22),(35,39)]),[7],[],[(32,99999)]⟩ (.exit 0) (bX dl sk dc ov x0 x1 x2 x3 x4 x5 is'0 i'1 l'2 n'3 (aH t'4) t'4.length),bT]) (l:=[_,_,_,_,_,(aK dl sk dc)[4]? = some (.mp (abE dc)),_,_,_]) (by kernel_rfl) (gc h6 (gc h5 (gc hl4.code (gc h3 (gc h2 (gc rfl (gc (fk 8 (aFo dl sk dc x0 x1 x2 x3 x4 x5) rfl) (gc h1 (gc h0 gn)))))))))
theorem bSh{dl:Int}{sk dc:List (List Int)}{ov:PV}{T:List (Int × Bool)}{x0 x1 x2 x3 x4 x5:Int}{is'0:Bool}{i'1:Nat}{l'2:List (List Int)}{n'3:Nat}{t'4:List (Int × Bool)}(h0:cJ .i64 (aH T) (.int .i64 x0))(h1:(dO (aH T) (.int .i64 x0))=false)(h2:cJ .i64 (abE dc) (.int .i64 x0))(h3:(dO (abE dc) (.int .i64 x0))=false)(hl4:aF Tryz.prog 7 fB (bX dl sk dc ov x0 x1 x2 x3 x4 x5 (!(mF dl [x0,x1,x2,x3,x4,x5])) 0 ([]:List (List Int)) 0 (aH T) T.length) (.exit 0) (bX dl sk dc ov x0 x1 x2 x3 x4 x5 is'0 i'1 l'2 n'3 (aH t'4) t'4.length))(h5:cJ .i64 (aH t'4) (.int .i64 x0))(h6:(dO (aH t'4) (.int .i64 x0))=false):FMM Tryz.prog 154 [(.p (dcE x0 x1 x2 x3 x4 x5)),(.ptr 4 0),(.ptr 5 0),(.ptr 0 0),(.ptr 2 0)] (dE dl sk dc ov T) (.p (blP is'0)) [some (vB0 dl sk dc),some (.box 33 [(.p ov)]),some vB2,some (.mp ((aH t'4)++[((.int .i64 x0),(blP is'0))]) (t'4.length+1)),some (.box 207 [(.mp 3)]),some (vB5 dl sk dc),some vB6]:=by
 exact FMM.fin (k:=7) (g:=⟨[],[],[],[]⟩) rfl Tryz.func154 rfl (o:=[bF,.c (.p (blP (mF dl [x0,x1,x2,x3,x4,x5]))) [],.x (.mp (abE dc)),bF,.k 1 ⟨(rng [(0,1),(2,2),(7,2),(10,22),(35,39)]),[7],[],[(32,99999)]⟩ (.exit 0) (bX dl sk dc ov x0 x1 x2 x3 x4 x5 is'0 i'1 l'2 n'3 (aH t'4) t'4.length),bF]) (l:=[_,_,_,_,_,(aK dl sk dc)[4]? = some (.mp (abE dc)),_,_,_]) (by kernel_rfl) (gc h6 (gc h5 (gc hl4.code (gc h3 (gc h2 (gc rfl (gc (fk 8 (aFo dl sk dc x0 x1 x2 x3 x4 x5) rfl) (gc h1 (gc h0 gn)))))))))
theorem aYf{dl:Int}{sk dc:List (List Int)}{ov:PV}{x0 x1 x2 x3 x4 x5:Int}{is:Bool}{i:Nat}{l:List (List Int)}{n:Nat}{t:List (Int × Bool)}{y100 y101 y102 y103 y104 y105:Int}{b106:Bool}{T107:List (Int × Bool)}{i':Nat}{t':List (Int × Bool)}(h0:(i:Int)<(n:Int))(h1:l[i]? = some [y100,y101,y102,y103,y104,y105])(h2:uni 6 l)(h3:y101=(5:Int))(h4:is=true)(h5:pT dl sk dc ov [y100,y101,y102,y103,y104,y105] b106 t T107)(h6:b106=true)(h7:inR (((i+1):Nat):Int))(ei':i'=(i+1))(et'e:aH t'=(aH T107))(et'k:t'.length=T107.length):aC Tryz.prog 7 fB (bX dl sk dc ov x0 x1 x2 x3 x4 x5 is i l n (aH t) t.length) .normal (bX dl sk dc ov x0 x1 x2 x3 x4 x5 false i' l n (aH t') t'.length):=by
 subst ei'
 have raw:aC Tryz.prog 7 fB (bX dl sk dc ov x0 x1 x2 x3 x4 x5 is i l n (aH t) t.length) .normal (bX dl sk dc ov x0 x1 x2 x3 x4 x5 false (i+1) l n (aH T107) T107.length):=aC.fin (g:=⟨(rng [(0,1),(2,2),(7,2),(10,22),(35,39)]),[7],[],[(9,0)]⟩) (o:=[bT,.x (dcE y100 y101 y102 y103 y104 y105),bT,bT,bT,bT,bT,bT,bT,bT,.c (.p (blP b106)) (vU dl sk dc ov T107),bT,bT,bT,bT,bT,bT,bT,bT,bT,bT,bT]) (l:=[_,_,_,_,_,_,_,_,_,_,_,_,FC Tryz.prog 154 [(.p (dcE y100 y101 y102 y103 y104 y105)),(.ptr 4 0),(.ptr 5 0),(.ptr 0 0),(.ptr 2 0)] [(4,(.box 207 [(.mp 3)])),(5,(vB5 dl sk dc)),(0,(vB0 dl sk dc)),(2,vB2),(3,(.mp (aH t) t.length)),(6,vB6),(1,(.box 33 [(.p ov)]))] 9 (.p (blP b106)) (vU dl sk dc ov T107),_,_,_,_,_,_,_,_,_,_,0≤(i:Int)∧(i:Int)<(l.length:Int)∧(i*6)<(l.flatten.map aA).length,_]) (by kernel_rfl) (gc h7 (gc h6 (gc (bE h3) (gc h6 (gc (bE h3) (gc (bE h3) (gc (bE h3) (gc (bE h3) (gc h6 (gc h6 (gc h6 (gc h6 (gc (FMM.fc (ids:=[0,1,2,3,4,5,6]) h5 (by kernel_rfl)) (gc h4 (gc h4 (gc (bE h3) (gc (bE h3) (gc (bE h3) (gc (bE h3) (gc (bE h3) (gc (bE h3) (gc (aQ (i:=i) h2 h1) (gc (bD (i:=i) h2 h1) (gc (bB (k:=6) (i:=(i:Int)) (by decide) h2 (Int.natCast_nonneg _) h1) (gc (aL h0) gn)))))))))))))))))))))))))
 exact raw.cast (by rw [et'e,et'k])
theorem aYg{dl:Int}{sk dc:List (List Int)}{ov:PV}{x0 x1 x2 x3 x4 x5:Int}{is:Bool}{i:Nat}{l:List (List Int)}{n:Nat}{t:List (Int × Bool)}{y100 y101 y102 y103 y104 y105:Int}{b106:Bool}{T107:List (Int × Bool)}{i':Nat}{t':List (Int × Bool)}(h0:(i:Int)<(n:Int))(h1:l[i]? = some [y100,y101,y102,y103,y104,y105])(h2:uni 6 l)(h3:y101=(5:Int))(h4:is=true)(h5:pT dl sk dc ov [y100,y101,y102,y103,y104,y105] b106 t T107)(h6:b106=false)(h7:inR (((i+1):Nat):Int))(ei':i'=(i+1))(et'e:aH t'=(aH T107))(et'k:t'.length=T107.length):aC Tryz.prog 7 fB (bX dl sk dc ov x0 x1 x2 x3 x4 x5 is i l n (aH t) t.length) .normal (bX dl sk dc ov x0 x1 x2 x3 x4 x5 is i' l n (aH t') t'.length):=by
 subst ei'
 have raw:aC Tryz.prog 7 fB (bX dl sk dc ov x0 x1 x2 x3 x4 x5 is i l n (aH t) t.length) .normal (bX dl sk dc ov x0 x1 x2 x3 x4 x5 is (i+1) l n (aH T107) T107.length):=aC.fin (g:=⟨(rng [(0,1),(2,2),(7,2),(10,22),(35,39)]),[7],[],[]⟩) (o:=[bT,.x (dcE y100 y101 y102 y103 y104 y105),bT,bT,bT,bT,bT,bT,bT,bT,.c (.p (blP b106)) (vU dl sk dc ov T107),bF,bF,bF,bF,bF,bF]) (l:=[_,_,_,_,_,_,_,FC Tryz.prog 154 [(.p (dcE y100 y101 y102 y103 y104 y105)),(.ptr 4 0),(.ptr 5 0),(.ptr 0 0),(.ptr 2 0)] [(4,(.box 207 [(.mp 3)])),(5,(vB5 dl sk dc)),(0,(vB0 dl sk dc)),(2,vB2),(3,(.mp (aH t) t.length)),(6,vB6),(1,(.box 33 [(.p ov)]))] 9 (.p (blP b106)) (vU dl sk dc ov T107),_,_,_,_,_,_,_,_,_,_,0≤(i:Int)∧(i:Int)<(l.length:Int)∧(i*6)<(l.flatten.map aA).length,_]) (by kernel_rfl) (gc h7 (gc h6 (gc h6 (gc h6 (gc h6 (gc h6 (gc h6 (gc (FMM.fc (ids:=[0,1,2,3,4,5,6]) h5 (by kernel_rfl)) (gc h4 (gc h4 (gc (bE h3) (gc (bE h3) (gc (bE h3) (gc (bE h3) (gc (bE h3) (gc (bE h3) (gc (aQ (i:=i) h2 h1) (gc (bD (i:=i) h2 h1) (gc (bB (k:=6) (i:=(i:Int)) (by decide) h2 (Int.natCast_nonneg _) h1) (gc (aL h0) gn))))))))))))))))))))
 exact raw.cast (by rw [et'e,et'k])
theorem aYh{dl:Int}{sk dc:List (List Int)}{ov:PV}{x0 x1 x2 x3 x4 x5:Int}{is:Bool}{i:Nat}{l:List (List Int)}{n:Nat}{t:List (Int × Bool)}{y100 y101 y102 y103 y104 y105:Int}{i':Nat}(h0:(i:Int)<(n:Int))(h1:l[i]? = some [y100,y101,y102,y103,y104,y105])(h2:uni 6 l)(h3:y101=(5:Int))(h4:is=false)(h5:inR (((i+1):Nat):Int))(ei':i'=(i+1)):aC Tryz.prog 7 fB (bX dl sk dc ov x0 x1 x2 x3 x4 x5 is i l n (aH t) t.length) .normal (bX dl sk dc ov x0 x1 x2 x3 x4 x5 is i' l n (aH t) t.length):=by
 subst ei'
 exact aC.fin (g:=⟨(rng [(0,1),(2,2),(7,2),(10,22),(35,39)]),[7],[],[]⟩) (o:=[bT,.x (dcE y100 y101 y102 y103 y104 y105),bT,bT,bT,bT,bT,bT,bF,bF]) (l:=[_,_,_,_,_,_,_,_,_,_,_,0≤(i:Int)∧(i:Int)<(l.length:Int)∧(i*6)<(l.flatten.map aA).length,_]) (by kernel_rfl) (gc h5 (gc h4 (gc h4 (gc (bE h3) (gc (bE h3) (gc (bE h3) (gc (bE h3) (gc (bE h3) (gc (bE h3) (gc (aQ (i:=i) h2 h1) (gc (bD (i:=i) h2 h1) (gc (bB (k:=6) (i:=(i:Int)) (by decide) h2 (Int.natCast_nonneg _) h1) (gc (aL h0) gn)))))))))))))
theorem aYi{dl:Int}{sk dc:List (List Int)}{ov:PV}{x0 x1 x2 x3 x4 x5:Int}{is:Bool}{i:Nat}{l:List (List Int)}{n:Nat}{t:List (Int × Bool)}{y100 y101 y102 y103 y104 y105:Int}{b106:Bool}{T107:List (Int × Bool)}{b108:Bool}{T109:List (Int × Bool)}{i':Nat}{t':List (Int × Bool)}(h0:(i:Int)<(n:Int))(h1:l[i]? = some [y100,y101,y102,y103,y104,y105])(h2:uni 6 l)(h3:y101≠(5:Int))(h4:y101=(7:Int))(h5:is=true)(h6:(cW x1)=false)(h7:pT dl sk dc ov [y100,y101,y102,y103,y104,y105] b106 t T107)(h8:b106=true)(h9:bJb dl sk dc ov [y100,y101,y102,y103,y104,y105] b108 T107 T109)(h10:b108=true)(h11:inR (((i+1):Nat):Int))(ei':i'=(i+1))(et'e:aH t'=(aH T109))(et'k:t'.length=T109.length):aC Tryz.prog 7 fB (bX dl sk dc ov x0 x1 x2 x3 x4 x5 is i l n (aH t) t.length) .normal (bX dl sk dc ov x0 x1 x2 x3 x4 x5 false i' l n (aH t') t'.length):=by
 subst ei'
 have raw:aC Tryz.prog 7 fB (bX dl sk dc ov x0 x1 x2 x3 x4 x5 is i l n (aH t) t.length) .normal (bX dl sk dc ov x0 x1 x2 x3 x4 x5 false (i+1) l n (aH T109) T109.length):=aC.fin (g:=⟨(rng [(0,1),(2,2),(7,2),(10,22),(35,39)]),[7],[],[(9,0)]⟩) (o:=[bT,.x (dcE y100 y101 y102 y103 y104 y105),bF,bF,bF,bF,bT,bT,bT,.c (.p (blP (cW x1))) [],bT,bF,bT,bF,bT,bT,bT,bT,bT,bT,.c (.p (blP b106)) (vU dl sk dc ov T107),bT,bT,bT,bT,bT,bF,bF,bF,bF,.c (.p (blP b108)) (vU dl sk dc ov T109),bT,bF,bT,bT]) (l:=[_,_,_,_,_,FC Tryz.prog 157 [(.p (dcE y100 y101 y102 y103 y104 y105)),(.ptr 2 0),(.ptr 1 0)] [(2,vB2),(1,(.box 33 [(.p ov)])),(4,(.box 207 [(.mp 3)])),(5,(vB5 dl sk dc)),(0,(vB0 dl sk dc)),(6,vB6),(3,(.mp (aH T107) T107.length))] 9 (.p (blP b108)) (vU dl sk dc ov T109),_,_,_,_,_,_,_,_,_,FC Tryz.prog 154 [(.p (dcE y100 y101 y102 y103 y104 y105)),(.ptr 4 0),(.ptr 5 0),(.ptr 0 0),(.ptr 2 0)] [(4,(.box 207 [(.mp 3)])),(5,(vB5 dl sk dc)),(0,(vB0 dl sk dc)),(2,vB2),(3,(.mp (aH t) t.length)),(6,vB6),(1,(.box 33 [(.p ov)]))] 9 (.p (blP b106)) (vU dl sk dc ov T107),_,_,_,_,_,_,_,_,_,_,_,_,_,_,_,_,_,_,_,_,0≤(i:Int)∧(i:Int)<(l.length:Int)∧(i*6)<(l.flatten.map aA).length,_]) (by kernel_rfl) (gc h11 (gc h10 (gc h8 (gc (aU h3) (gc h8 (gc (FMM.fc (ids:=[0,1,2,3,4,5,6]) h9 (by kernel_rfl)) (gc (aU h3) (gc (aU h3) (gc (aU h3) (gc (aU h3) (gc h8 (gc h8 (gc h8 (gc h8 (gc (bI h6) (gc (FMM.fc (ids:=[0,1,2,3,4,5,6]) h7 (by kernel_rfl)) (gc (bI h6) (gc (bI h6) (gc (bI h6) (gc (bI h6) (gc h5 (gc h5 (gc (aU h3) (gc (bE h4) (gc (aU h3) (gc (bE h4) (gc (fk 9 (mE x1) rfl) (gc (bE h4) (gc (bE h4) (gc (bE h4) (gc (aU h3) (gc (aU h3) (gc (aU h3) (gc (aU h3) (gc (aQ (i:=i) h2 h1) (gc (bD (i:=i) h2 h1) (gc (bB (k:=6) (i:=(i:Int)) (by decide) h2 (Int.natCast_nonneg _) h1) (gc (aL h0) gn))))))))))))))))))))))))))))))))))))))
 exact raw.cast (by rw [et'e,et'k])
theorem aYj{dl:Int}{sk dc:List (List Int)}{ov:PV}{x0 x1 x2 x3 x4 x5:Int}{is:Bool}{i:Nat}{l:List (List Int)}{n:Nat}{t:List (Int × Bool)}{y100 y101 y102 y103 y104 y105:Int}{b106:Bool}{T107:List (Int × Bool)}{b108:Bool}{T109:List (Int × Bool)}{i':Nat}{t':List (Int × Bool)}(h0:(i:Int)<(n:Int))(h1:l[i]? = some [y100,y101,y102,y103,y104,y105])(h2:uni 6 l)(h3:y101≠(5:Int))(h4:y101=(7:Int))(h5:is=true)(h6:(cW x1)=false)(h7:pT dl sk dc ov [y100,y101,y102,y103,y104,y105] b106 t T107)(h8:b106=true)(h9:bJb dl sk dc ov [y100,y101,y102,y103,y104,y105] b108 T107 T109)(h10:b108=false)(h11:inR (((i+1):Nat):Int))(ei':i'=(i+1))(et'e:aH t'=(aH T109))(et'k:t'.length=T109.length):aC Tryz.prog 7 fB (bX dl sk dc ov x0 x1 x2 x3 x4 x5 is i l n (aH t) t.length) .normal (bX dl sk dc ov x0 x1 x2 x3 x4 x5 is i' l n (aH t') t'.length):=by
 subst ei'
 have raw:aC Tryz.prog 7 fB (bX dl sk dc ov x0 x1 x2 x3 x4 x5 is i l n (aH t) t.length) .normal (bX dl sk dc ov x0 x1 x2 x3 x4 x5 is (i+1) l n (aH T109) T109.length):=aC.fin (g:=⟨(rng [(0,1),(2,2),(7,2),(10,22),(35,39)]),[7],[],[]⟩) (o:=[bT,.x (dcE y100 y101 y102 y103 y104 y105),bF,bF,bF,bF,bT,bT,bT,.c (.p (blP (cW x1))) [],bT,bF,bT,bF,bT,bT,bT,bT,bT,bT,.c (.p (blP b106)) (vU dl sk dc ov T107),bT,bT,bT,bT,bT,bF,bF,bF,bF,.c (.p (blP b108)) (vU dl sk dc ov T109),bT,bF,bT,bF]) (l:=[_,_,_,_,_,FC Tryz.prog 157 [(.p (dcE y100 y101 y102 y103 y104 y105)),(.ptr 2 0),(.ptr 1 0)] [(2,vB2),(1,(.box 33 [(.p ov)])),(4,(.box 207 [(.mp 3)])),(5,(vB5 dl sk dc)),(0,(vB0 dl sk dc)),(6,vB6),(3,(.mp (aH T107) T107.length))] 9 (.p (blP b108)) (vU dl sk dc ov T109),_,_,_,_,_,_,_,_,_,FC Tryz.prog 154 [(.p (dcE y100 y101 y102 y103 y104 y105)),(.ptr 4 0),(.ptr 5 0),(.ptr 0 0),(.ptr 2 0)] [(4,(.box 207 [(.mp 3)])),(5,(vB5 dl sk dc)),(0,(vB0 dl sk dc)),(2,vB2),(3,(.mp (aH t) t.length)),(6,vB6),(1,(.box 33 [(.p ov)]))] 9 (.p (blP b106)) (vU dl sk dc ov T107),_,_,_,_,_,_,_,_,_,_,_,_,_,_,_,_,_,_,_,_,0≤(i:Int)∧(i:Int)<(l.length:Int)∧(i*6)<(l.flatten.map aA).length,_]) (by kernel_rfl) (gc h11 (gc h10 (gc h8 (gc (aU h3) (gc h8 (gc (FMM.fc (ids:=[0,1,2,3,4,5,6]) h9 (by kernel_rfl)) (gc (aU h3) (gc (aU h3) (gc (aU h3) (gc (aU h3) (gc h8 (gc h8 (gc h8 (gc h8 (gc (bI h6) (gc (FMM.fc (ids:=[0,1,2,3,4,5,6]) h7 (by kernel_rfl)) (gc (bI h6) (gc (bI h6) (gc (bI h6) (gc (bI h6) (gc h5 (gc h5 (gc (aU h3) (gc (bE h4) (gc (aU h3) (gc (bE h4) (gc (fk 9 (mE x1) rfl) (gc (bE h4) (gc (bE h4) (gc (bE h4) (gc (aU h3) (gc (aU h3) (gc (aU h3) (gc (aU h3) (gc (aQ (i:=i) h2 h1) (gc (bD (i:=i) h2 h1) (gc (bB (k:=6) (i:=(i:Int)) (by decide) h2 (Int.natCast_nonneg _) h1) (gc (aL h0) gn))))))))))))))))))))))))))))))))))))))
 exact raw.cast (by rw [et'e,et'k])
theorem aYk{dl:Int}{sk dc:List (List Int)}{ov:PV}{x0 x1 x2 x3 x4 x5:Int}{is:Bool}{i:Nat}{l:List (List Int)}{n:Nat}{t:List (Int × Bool)}{y100 y101 y102 y103 y104 y105:Int}{b106:Bool}{T107:List (Int × Bool)}{i':Nat}{t':List (Int × Bool)}(h0:(i:Int)<(n:Int))(h1:l[i]? = some [y100,y101,y102,y103,y104,y105])(h2:uni 6 l)(h3:y101≠(5:Int))(h4:y101=(7:Int))(h5:is=true)(h6:(cW x1)=false)(h7:pT dl sk dc ov [y100,y101,y102,y103,y104,y105] b106 t T107)(h8:b106=false)(h9:inR (((i+1):Nat):Int))(ei':i'=(i+1))(et'e:aH t'=(aH T107))(et'k:t'.length=T107.length):aC Tryz.prog 7 fB (bX dl sk dc ov x0 x1 x2 x3 x4 x5 is i l n (aH t) t.length) .normal (bX dl sk dc ov x0 x1 x2 x3 x4 x5 is i' l n (aH t') t'.length):=by
 subst ei'
 have raw:aC Tryz.prog 7 fB (bX dl sk dc ov x0 x1 x2 x3 x4 x5 is i l n (aH t) t.length) .normal (bX dl sk dc ov x0 x1 x2 x3 x4 x5 is (i+1) l n (aH T107) T107.length):=aC.fin (g:=⟨(rng [(0,1),(2,2),(7,2),(10,22),(35,39)]),[7],[],[]⟩) (o:=[bT,.x (dcE y100 y101 y102 y103 y104 y105),bF,bF,bF,bF,bT,bT,bT,.c (.p (blP (cW x1))) [],bT,bF,bT,bF,bT,bT,bT,bT,bT,bT,.c (.p (blP b106)) (vU dl sk dc ov T107),bT,bF,bF,bF,bF,bF,bF]) (l:=[_,_,_,_,_,_,_,_,FC Tryz.prog 154 [(.p (dcE y100 y101 y102 y103 y104 y105)),(.ptr 4 0),(.ptr 5 0),(.ptr 0 0),(.ptr 2 0)] [(4,(.box 207 [(.mp 3)])),(5,(vB5 dl sk dc)),(0,(vB0 dl sk dc)),(2,vB2),(3,(.mp (aH t) t.length)),(6,vB6),(1,(.box 33 [(.p ov)]))] 9 (.p (blP b106)) (vU dl sk dc ov T107),_,_,_,_,_,_,_,_,_,_,_,_,_,_,_,_,_,_,_,_,0≤(i:Int)∧(i:Int)<(l.length:Int)∧(i*6)<(l.flatten.map aA).length,_]) (by kernel_rfl) (gc h9 (gc h8 (gc h8 (gc h8 (gc h8 (gc h8 (gc h8 (gc (bI h6) (gc (FMM.fc (ids:=[0,1,2,3,4,5,6]) h7 (by kernel_rfl)) (gc (bI h6) (gc (bI h6) (gc (bI h6) (gc (bI h6) (gc h5 (gc h5 (gc (aU h3) (gc (bE h4) (gc (aU h3) (gc (bE h4) (gc (fk 9 (mE x1) rfl) (gc (bE h4) (gc (bE h4) (gc (bE h4) (gc (aU h3) (gc (aU h3) (gc (aU h3) (gc (aU h3) (gc (aQ (i:=i) h2 h1) (gc (bD (i:=i) h2 h1) (gc (bB (k:=6) (i:=(i:Int)) (by decide) h2 (Int.natCast_nonneg _) h1) (gc (aL h0) gn)))))))))))))))))))))))))))))))
 exact raw.cast (by rw [et'e,et'k])
theorem aYl{dl:Int}{sk dc:List (List Int)}{ov:PV}{x0 x1 x2 x3 x4 x5:Int}{is:Bool}{i:Nat}{l:List (List Int)}{n:Nat}{t:List (Int × Bool)}{y100 y101 y102 y103 y104 y105:Int}{i':Nat}(h0:(i:Int)<(n:Int))(h1:l[i]? = some [y100,y101,y102,y103,y104,y105])(h2:uni 6 l)(h3:y101≠(5:Int))(h4:y101=(7:Int))(h5:is=true)(h6:(cW x1)=true)(h7:inR (((i+1):Nat):Int))(ei':i'=(i+1)):aC Tryz.prog 7 fB (bX dl sk dc ov x0 x1 x2 x3 x4 x5 is i l n (aH t) t.length) .normal (bX dl sk dc ov x0 x1 x2 x3 x4 x5 is i' l n (aH t) t.length):=by
 subst ei'
 exact aC.fin (g:=⟨(rng [(0,1),(2,2),(7,2),(10,22),(35,39)]),[7],[],[]⟩) (o:=[bT,.x (dcE y100 y101 y102 y103 y104 y105),bF,bF,bF,bF,bT,bT,bT,.c (.p (blP (cW x1))) [],bT,bF,bT,bF,bT,bT,bF,bF,bF,bF,bF]) (l:=[_,_,_,_,_,_,_,_,_,_,_,_,_,_,_,_,_,_,_,_,_,_,0≤(i:Int)∧(i:Int)<(l.length:Int)∧(i*6)<(l.flatten.map aA).length,_]) (by kernel_rfl) (gc h7 (gc (aI h6) (gc (aI h6) (gc (aI h6) (gc (aI h6) (gc (aI h6) (gc h5 (gc h5 (gc (aU h3) (gc (bE h4) (gc (aU h3) (gc (bE h4) (gc (fk 9 (mE x1) rfl) (gc (bE h4) (gc (bE h4) (gc (bE h4) (gc (aU h3) (gc (aU h3) (gc (aU h3) (gc (aU h3) (gc (aQ (i:=i) h2 h1) (gc (bD (i:=i) h2 h1) (gc (bB (k:=6) (i:=(i:Int)) (by decide) h2 (Int.natCast_nonneg _) h1) (gc (aL h0) gn))))))))))))))))))))))))
theorem aYm{dl:Int}{sk dc:List (List Int)}{ov:PV}{x0 x1 x2 x3 x4 x5:Int}{is:Bool}{i:Nat}{l:List (List Int)}{n:Nat}{t:List (Int × Bool)}{y100 y101 y102 y103 y104 y105:Int}{i':Nat}(h0:(i:Int)<(n:Int))(h1:l[i]? = some [y100,y101,y102,y103,y104,y105])(h2:uni 6 l)(h3:y101≠(5:Int))(h4:y101=(7:Int))(h5:is=false)(h6:inR (((i+1):Nat):Int))(ei':i'=(i+1)):aC Tryz.prog 7 fB (bX dl sk dc ov x0 x1 x2 x3 x4 x5 is i l n (aH t) t.length) .normal (bX dl sk dc ov x0 x1 x2 x3 x4 x5 is i' l n (aH t) t.length):=by
 subst ei'
 exact aC.fin (g:=⟨(rng [(0,1),(2,2),(7,2),(10,22),(35,39)]),[7],[],[]⟩) (o:=[bT,.x (dcE y100 y101 y102 y103 y104 y105),bF,bF,bF,bF,bT,bT,bT,.c (.p (blP (cW x1))) [],bT,bF,bT,bF,bF,bF]) (l:=[_,_,_,_,_,_,_,_,_,_,_,_,_,_,_,_,_,0≤(i:Int)∧(i:Int)<(l.length:Int)∧(i*6)<(l.flatten.map aA).length,_]) (by kernel_rfl) (gc h6 (gc h5 (gc h5 (gc (aU h3) (gc (bE h4) (gc (aU h3) (gc (bE h4) (gc (fk 9 (mE x1) rfl) (gc (bE h4) (gc (bE h4) (gc (bE h4) (gc (aU h3) (gc (aU h3) (gc (aU h3) (gc (aU h3) (gc (aQ (i:=i) h2 h1) (gc (bD (i:=i) h2 h1) (gc (bB (k:=6) (i:=(i:Int)) (by decide) h2 (Int.natCast_nonneg _) h1) (gc (aL h0) gn)))))))))))))))))))
theorem aYn{dl:Int}{sk dc:List (List Int)}{ov:PV}{x0 x1 x2 x3 x4 x5:Int}{is:Bool}{i:Nat}{l:List (List Int)}{n:Nat}{t:List (Int × Bool)}{y100 y101 y102 y103 y104 y105:Int}{i':Nat}(h0:(i:Int)<(n:Int))(h1:l[i]? = some [y100,y101,y102,y103,y104,y105])(h2:uni 6 l)(h3:y101≠(5:Int))(h4:y101≠(7:Int))(h5:is=true)(h6:inR (((i+1):Nat):Int))(ei':i'=(i+1)):aC Tryz.prog 7 fB (bX dl sk dc ov x0 x1 x2 x3 x4 x5 is i l n (aH t) t.length) .normal (bX dl sk dc ov x0 x1 x2 x3 x4 x5 is i' l n (aH t) t.length):=by
 subst ei'
 exact aC.fin (g:=⟨(rng [(0,1),(2,2),(7,2),(10,22),(35,39)]),[7],[],[]⟩) (o:=[bT,.x (dcE y100 y101 y102 y103 y104 y105),bF,bF,bF,bF,bF,bF,bF,bF,bF,bF,bF,bT,bT]) (l:=[_,_,_,_,_,_,_,_,_,_,_,_,_,_,_,_,0≤(i:Int)∧(i:Int)<(l.length:Int)∧(i*6)<(l.flatten.map aA).length,_]) (by kernel_rfl) (gc h6 (gc h5 (gc h5 (gc (aU h3) (gc (aU h4) (gc (aU h3) (gc (aU h4) (gc (aU h4) (gc (aU h4) (gc (aU h4) (gc (aU h3) (gc (aU h3) (gc (aU h3) (gc (aU h3) (gc (aQ (i:=i) h2 h1) (gc (bD (i:=i) h2 h1) (gc (bB (k:=6) (i:=(i:Int)) (by decide) h2 (Int.natCast_nonneg _) h1) (gc (aL h0) gn))))))))))))))))))
theorem aYo{dl:Int}{sk dc:List (List Int)}{ov:PV}{x0 x1 x2 x3 x4 x5:Int}{is:Bool}{i:Nat}{l:List (List Int)}{n:Nat}{t:List (Int × Bool)}{y100 y101 y102 y103 y104 y105:Int}{i':Nat}(h0:(i:Int)<(n:Int))(h1:l[i]? = some [y100,y101,y102,y103,y104,y105])(h2:uni 6 l)(h3:y101≠(5:Int))(h4:y101≠(7:Int))(h5:is=false)(h6:inR (((i+1):Nat):Int))(ei':i'=(i+1)):aC Tryz.prog 7 fB (bX dl sk dc ov x0 x1 x2 x3 x4 x5 is i l n (aH t) t.length) .normal (bX dl sk dc ov x0 x1 x2 x3 x4 x5 is i' l n (aH t) t.length):=by
 subst ei'
 exact aC.fin (g:=⟨(rng [(0,1),(2,2),(7,2),(10,22),(35,39)]),[7],[],[]⟩) (o:=[bT,.x (dcE y100 y101 y102 y103 y104 y105),bF,bF,bF,bF,bF,bF,bF,bF,bF,bF,bF,bF,bF]) (l:=[_,_,_,_,_,_,_,_,_,_,_,_,_,_,_,_,0≤(i:Int)∧(i:Int)<(l.length:Int)∧(i*6)<(l.flatten.map aA).length,_]) (by kernel_rfl) (gc h6 (gc h5 (gc h5 (gc (aU h3) (gc (aU h4) (gc (aU h3) (gc (aU h4) (gc (aU h4) (gc (aU h4) (gc (aU h4) (gc (aU h3) (gc (aU h3) (gc (aU h3) (gc (aU h3) (gc (aQ (i:=i) h2 h1) (gc (bD (i:=i) h2 h1) (gc (bB (k:=6) (i:=(i:Int)) (by decide) h2 (Int.natCast_nonneg _) h1) (gc (aL h0) gn))))))))))))))))))
theorem aNk{dl:Int}{sk dc:List (List Int)}{ov:PV}{x0 x1 x2 x3 x4 x5:Int}{is:Bool}{i:Nat}{l:List (List Int)}{n:Nat}{t:List (Int × Bool)}(h0:(n:Int)≤(i:Int)):aC Tryz.prog 7 fB (bX dl sk dc ov x0 x1 x2 x3 x4 x5 is i l n (aH t) t.length) (.exit 0) (bX dl sk dc ov x0 x1 x2 x3 x4 x5 is i l n (aH t) t.length):=by
 exact aC.fin (g:=⟨(rng [(0,1),(2,2),(7,2),(10,22),(35,39)]),[7],[],[]⟩) (o:=[bF]) (l:=[_]) (by kernel_rfl) (gc (aE h0) gn)
theorem bDu{dl:Int}{sk dc:List (List Int)}{ov:PV}{T:List (Int × Bool)}{x0 x1 x2 x3 x4 x5 z0 z1 z2 z3 z4 z5:Int}{b6:Bool}{T7:List (Int × Bool)}(h0:bRx 155 dl sk dc ov [x0,x1,x2,x3,x4,x5] [z0,z1,z2,z3,z4,z5] b6 T T7):FMM Tryz.prog 156 [(.p (dcE x0 x1 x2 x3 x4 x5)),(.ptr 6 0)] (dE dl sk dc ov T) (.tup [(.p (dcE z0 z1 z2 z3 z4 z5)),(.p (blP b6))]) (dE dl sk dc ov T7):=by
 exact FMM.fin (k:=7) (g:=⟨[],[],[],[]⟩) rfl Tryz.func156 rfl (o:=[.c (.tup [(.p (dcE z0 z1 z2 z3 z4 z5)),(.p (blP b6))]) (vU dl sk dc ov T7)]) (l:=[FC Tryz.prog 153 [(.p (dcE x0 x1 x2 x3 x4 x5)),(.fn 155 [] []),(.ptr 0 0),(.ptr 2 0)] [(0,(vB0 dl sk dc)),(2,vB2),(4,(.box 207 [(.mp 3)])),(5,(vB5 dl sk dc)),(6,vB6),(1,(.box 33 [(.p ov)])),(3,(.mp (aH T) T.length))] 9 (.tup [(.p (dcE z0 z1 z2 z3 z4 z5)),(.p (blP b6))]) (vU dl sk dc ov T7)]) (by kernel_rfl) (gc (FMM.fc (ids:=[0,1,2,3,4,5,6]) h0 (by kernel_rfl)) gn)
theorem bDv{dl:Int}{sk dc:List (List Int)}{ov:PV}{T:List (Int × Bool)}{x0 x1 x2 x3 x4 x5 z0 z1 z2 z3 z4 z5:Int}{b6:Bool}{T7:List (Int × Bool)}(h0:bRx 159 dl sk dc ov [x0,x1,x2,x3,x4,x5] [z0,z1,z2,z3,z4,z5] b6 T T7):FMM Tryz.prog 158 [(.p (dcE x0 x1 x2 x3 x4 x5)),(.ptr 6 0)] (dE dl sk dc ov T) (.tup [(.p (dcE z0 z1 z2 z3 z4 z5)),(.p (blP b6))]) (dE dl sk dc ov T7):=by
 exact FMM.fin (k:=7) (g:=⟨[],[],[],[]⟩) rfl Tryz.func158 rfl (o:=[.c (.tup [(.p (dcE z0 z1 z2 z3 z4 z5)),(.p (blP b6))]) (vU dl sk dc ov T7)]) (l:=[FC Tryz.prog 153 [(.p (dcE x0 x1 x2 x3 x4 x5)),(.fn 159 [] []),(.ptr 0 0),(.ptr 2 0)] [(0,(vB0 dl sk dc)),(2,vB2),(4,(.box 207 [(.mp 3)])),(5,(vB5 dl sk dc)),(6,vB6),(1,(.box 33 [(.p ov)])),(3,(.mp (aH T) T.length))] 9 (.tup [(.p (dcE z0 z1 z2 z3 z4 z5)),(.p (blP b6))]) (vU dl sk dc ov T7)]) (by kernel_rfl) (gc (FMM.fc (ids:=[0,1,2,3,4,5,6]) h0 (by kernel_rfl)) gn)
theorem bSi{dl:Int}{sk dc:List (List Int)}{ov:PV}{T:List (Int × Bool)}{x0 x1 x2 x3 x4 x5 z0 z1 z2 z3 z4 z5:Int}{b6:Bool}{T7:List (Int × Bool)}{r0:Bool}(h0:aIy dl sk dc ov [x0,x1,x2,x3,x4,x5] [z0,z1,z2,z3,z4,z5] b6 T T7)(h1:b6=true)(er0:r0=(z1 == (8:Int))):FMM Tryz.prog 157 [(.p (dcE x0 x1 x2 x3 x4 x5)),(.ptr 2 0),(.ptr 1 0)] (dE dl sk dc ov T) (.p (blP r0)) (dE dl sk dc ov T7):=by
 subst er0
 exact FMM.fin (k:=7) (g:=⟨[],[],[],[]⟩) rfl Tryz.func157 rfl (o:=[.c (.tup [(.p (dcE z0 z1 z2 z3 z4 z5)),(.p (blP b6))]) (vU dl sk dc ov T7),bT]) (l:=[_,FC Tryz.prog 156 [(.p (dcE x0 x1 x2 x3 x4 x5)),(.ptr 6 0)] [(6,vB6),(0,(vB0 dl sk dc)),(2,vB2),(4,(.box 207 [(.mp 3)])),(5,(vB5 dl sk dc)),(1,(.box 33 [(.p ov)])),(3,(.mp (aH T) T.length))] 8 (.tup [(.p (dcE z0 z1 z2 z3 z4 z5)),(.p (blP b6))]) (vU dl sk dc ov T7)]) (by kernel_rfl) (gc h1 (gc (FMM.fc (ids:=[0,1,2,3,4,5,6]) h0 (by kernel_rfl)) gn))
theorem bSj{dl:Int}{sk dc:List (List Int)}{ov:PV}{T:List (Int × Bool)}{x0 x1 x2 x3 x4 x5 z0 z1 z2 z3 z4 z5:Int}{b6:Bool}{T7:List (Int × Bool)}{b8:Bool}(h0:aIy dl sk dc ov [x0,x1,x2,x3,x4,x5] [z0,z1,z2,z3,z4,z5] b6 T T7)(h1:b6=false)(h2:qS ov x0 b8):FMM Tryz.prog 157 [(.p (dcE x0 x1 x2 x3 x4 x5)),(.ptr 2 0),(.ptr 1 0)] (dE dl sk dc ov T) (.p (blP b8)) (dE dl sk dc ov T7):=by
 exact FMM.fin (k:=7) (g:=⟨[],[],[],[]⟩) rfl Tryz.func157 rfl (o:=[.c (.tup [(.p (dcE z0 z1 z2 z3 z4 z5)),(.p (blP b6))]) (vU dl sk dc ov T7),bF,.c (.p (blP b8)) []]) (l:=[FC Tryz.prog 52 [(.p ov),(.p (aA x0))] [] 9 (.p (blP b8)) [],_,FC Tryz.prog 156 [(.p (dcE x0 x1 x2 x3 x4 x5)),(.ptr 6 0)] [(6,vB6),(0,(vB0 dl sk dc)),(2,vB2),(4,(.box 207 [(.mp 3)])),(5,(vB5 dl sk dc)),(1,(.box 33 [(.p ov)])),(3,(.mp (aH T) T.length))] 8 (.tup [(.p (dcE z0 z1 z2 z3 z4 z5)),(.p (blP b6))]) (vU dl sk dc ov T7)]) (by kernel_rfl) (gc (FV.fc (h2 _) rfl) (gc h1 (gc (FMM.fc (ids:=[0,1,2,3,4,5,6]) h0 (by kernel_rfl)) gn)))
theorem bSk{dl:Int}{sk dc:List (List Int)}{ov:PV}{T:List (Int × Bool)}{x0 x1 x2 x3 x4 x5 z0 z1 z2 z3 z4 z5:Int}{b6:Bool}{T7:List (Int × Bool)}{m8:Int}{T9:List (Int × Bool)}(h0:bRy dl sk dc ov [x0,x1,x2,x3,x4,x5] [z0,z1,z2,z3,z4,z5] b6 T T7)(h1:b6=true)(h2:xA dl sk dc ov [z0,z1,z2,z3,z4,z5] m8 T7 T9):FMM Tryz.prog 160 [(.p (dcE x0 x1 x2 x3 x4 x5)),(.ptr 2 0)] (dE dl sk dc ov T) (.p (aA m8)) (dE dl sk dc ov T9):=by
 exact FMM.fin (k:=7) (g:=⟨[],[],[],[]⟩) rfl Tryz.func160 rfl (o:=[.c (.tup [(.p (dcE z0 z1 z2 z3 z4 z5)),(.p (blP b6))]) (vU dl sk dc ov T7),bT,.c (.p (aA m8)) (vU dl sk dc ov T9)]) (l:=[FC Tryz.prog 160 [(.p (dcE z0 z1 z2 z3 z4 z5)),(.ptr 2 0)] [(2,vB2),(4,(.box 207 [(.mp 3)])),(5,(vB5 dl sk dc)),(0,(vB0 dl sk dc)),(6,vB6),(1,(.box 33 [(.p ov)])),(3,(.mp (aH T7) T7.length))] 9 (.p (aA m8)) (vU dl sk dc ov T9),_,FC Tryz.prog 158 [(.p (dcE x0 x1 x2 x3 x4 x5)),(.ptr 6 0)] [(6,vB6),(0,(vB0 dl sk dc)),(2,vB2),(4,(.box 207 [(.mp 3)])),(5,(vB5 dl sk dc)),(1,(.box 33 [(.p ov)])),(3,(.mp (aH T) T.length))] 8 (.tup [(.p (dcE z0 z1 z2 z3 z4 z5)),(.p (blP b6))]) (vU dl sk dc ov T7)]) (by kernel_rfl) (gc (FMM.fc (ids:=[0,1,2,3,4,5,6]) h2 (by kernel_rfl)) (gc h1 (gc (FMM.fc (ids:=[0,1,2,3,4,5,6]) h0 (by kernel_rfl)) gn)))
theorem bSl{dl:Int}{sk dc:List (List Int)}{ov:PV}{T:List (Int × Bool)}{x0 x1 x2 x3 x4 x5 z0 z1 z2 z3 z4 z5:Int}{b6:Bool}{T7:List (Int × Bool)}(h0:bRy dl sk dc ov [x0,x1,x2,x3,x4,x5] [z0,z1,z2,z3,z4,z5] b6 T T7)(h1:b6=false):FMM Tryz.prog 160 [(.p (dcE x0 x1 x2 x3 x4 x5)),(.ptr 2 0)] (dE dl sk dc ov T) (.p (aA x4)) (dE dl sk dc ov T7):=by
 exact FMM.fin (k:=7) (g:=⟨[],[],[],[]⟩) rfl Tryz.func160 rfl (o:=[.c (.tup [(.p (dcE z0 z1 z2 z3 z4 z5)),(.p (blP b6))]) (vU dl sk dc ov T7),bF]) (l:=[_,FC Tryz.prog 158 [(.p (dcE x0 x1 x2 x3 x4 x5)),(.ptr 6 0)] [(6,vB6),(0,(vB0 dl sk dc)),(2,vB2),(4,(.box 207 [(.mp 3)])),(5,(vB5 dl sk dc)),(1,(.box 33 [(.p ov)])),(3,(.mp (aH T) T.length))] 8 (.tup [(.p (dcE z0 z1 z2 z3 z4 z5)),(.p (blP b6))]) (vU dl sk dc ov T7)]) (by kernel_rfl) (gc h1 (gc (FMM.fc (ids:=[0,1,2,3,4,5,6]) h0 (by kernel_rfl)) gn))
theorem aFp{dl:Int}{sk dc:List (List Int)}:FMM Tryz.prog 87 [(.rp (aK dl sk dc) 0),(.p bR)] [] gS [some (vB0 dl sk dc),some (.box 33 [(.p bR)]),some vB2,some (.mp [] 0),some (.box 207 [(.mp 3)]),some (vB5 dl sk dc),some vB6]:=by
 exact FMM.fin (k:=0) (g:=⟨[],[0,1,3,4,5,6,7],[],[]⟩) rfl Tryz.func87 rfl (o:=[]) (l:=[]) (by kernel_rfl) (gn)
theorem oH{dl:Int}{sk dc:List (List Int)}{on:Nat}{ol:List PV}:FMM Tryz.prog 87 [(.rp (aK dl sk dc) 0),(.p (.sl on ol))] [] gS [some (vB0 dl sk dc),some (.box 33 [(.p (.sl on ol))]),some vB2,some (.mp [] 0),some (.box 207 [(.mp 3)]),some (vB5 dl sk dc),some vB6]:=by
 exact FMM.fin (k:=0) (g:=⟨[],[0,1,3,4,5,6,7],[],[]⟩) rfl Tryz.func87 rfl (o:=[]) (l:=[]) (by kernel_rfl) (gn)
end
section
section
variable {dc:List (List Int)}
theorem aFj(h:cH dc){n:Int}(hn:1≤n∧n≤9999):cJ .i64 (abE dc) (.int .i64 n):=by
 have ha:=aNn h
 refine ⟨fun e he => ?_,mK (by omega),?_⟩
 ·obtain ⟨p,hp,rfl⟩:=List.mem_map.1 he
  obtain ⟨q1,q2,q3⟩:=ha.mem p hp
  cases hx:p.2 with
  | nil=>exact absurd hx q2
  | cons x r =>
   have:x∈dc.reverse.filter fun x=>dAb x == p.1:=by rw [← q3,hx];exact List.mem_cons_self ..
   obtain ⟨h1,h2⟩:=List.mem_filter.1 this
   have:=lD h x (List.mem_reverse.1 h1)
   have h2:dAb x=p.1:=by simpa using h2
   exact mK (by omega)
 ·have:(abE dc).map (fun e=>iA e.1)=(abM dc).map (·.1):=by
   unfold abE;rw [List.map_map];rfl
  rw [this];exact ha.nd
theorem aFk(h:cH dc){n:Int}(hn:0<n):(dO (abE dc) (.int .i64 n)=true∧fD (abE dc) (.int .i64 n)=some (.sl (cA dc n).length ((cA dc n).flatten.map aA)))∨(dO (abE dc) (.int .i64 n)=false∧cA dc n=[]):=by
 have ha:=aNn h
 have e1:dO (abE dc) (.int .i64 n)=(abM dc).any fun e=>e.1 == n:=by
  unfold dO abE
  rw [List.any_map]
  congr 1
 have e2:fD (abE dc) (.int .i64 n)=((abM dc).find? fun e=>e.1 == n).map fun e => .sl e.2.length (e.2.flatten.map aA):=by
  unfold fD abE
  generalize abM dc=L
  induction L with
  | nil=>rfl
  | cons p L ih =>
   rw [List.map_cons,List.find?_cons,List.find?_cons]
   have e:(decide (iA (((Value.int IntKind.i64 p.1),PV.sl p.2.length (p.2.flatten.map aA)):Value × PV).1=iA (Value.int IntKind.i64 n)))=(p.1 == n):=by
    show decide (p.1=n)=(p.1 == n)
    rw [Bool.eq_iff_iff];simp
   rw [e]
   cases p.1 == n with
   | true=>rfl
   | false=>exact ih
 rw [e1,e2]
 cases hf:(abM dc).find? fun e=>e.1 == n with
 | some e =>
  have h1:=List.mem_of_find?_eq_some hf
  have h2:e.1=n:=by simpa using List.find?_some hf
  obtain ⟨q1,q2,q3⟩:=ha.mem e h1
  refine .inl ⟨List.any_eq_true.2 ⟨e,h1,by simpa using h2⟩,?_⟩
  have:e.2=cA dc n:=by rw [q3,h2];rfl
  rw [Option.map_some,this]
 | none =>
  refine .inr ⟨?_,?_⟩
  ·rw [List.any_eq_false]
   intro e he
   exact List.find?_eq_none.1 hf e he
  ·rw [← bEb h hn]
   unfold wQ
   rw [hf]
theorem gQ(h:cH dc)(n:Int):uni 6 (cA dc n):=fun y hy=>h.ud y (eN hy).1
theorem vG(h:cH dc)(n:Int):(cA dc n).length≤1000:=by
 have:=List.length_filter_le (fun x=>dAb x == n) dc.reverse
 have h2:=h.len
 rw [List.length_reverse] at this
 unfold cA;omega
theorem aQa{α:Type}{p:α→Bool}{l:List α}{i:Nat}{x:α}(hi:l[i]? = some x)(hp:p x=true)(hj:∀ j y,j<i→l[j]? = some y→p y=false):l.find? p=some x:=by
 obtain ⟨h1,h2⟩:=List.getElem?_eq_some_iff.1 hi
 rw [List.find?_eq_some_iff_getElem]
 exact ⟨hp,i,h1,h2,fun j h=>by
  rw [hj j l[j] h (List.getElem?_eq_getElem (by omega))];rfl⟩
end
def zero6:List Int:=[0,0,0,0,0,0]
section
variable (dl:Int) (sk dc:List (List Int)) (oc:List Int) (ov:PV)
def oP(x:List Int):Prop:=∀ T,cL dl oc dc T→∃ T',cL dl oc dc T'∧pT dl sk dc ov x (dY dl oc dc x) T T'
def bKn(g:Nat)(q:List Int→Bool)(x:List Int):Prop:=∀ T,cL dl oc dc T→∃ T',cL dl oc dc T'∧bRx g dl sk dc ov x (((cA dc (dN x)).find? fun y=>q y && dY dl oc dc y).getD zero6) ((cA dc (dN x)).find? fun y=>q y && dY dl oc dc y).isSome T T'
def bKo(x:List Int):Prop:=∀ T,cL dl oc dc T→∃ T',cL dl oc dc T'∧aIy dl sk dc ov x ((sF dl oc dc x).getD zero6) (sF dl oc dc x).isSome T T'
def bKp(x:List Int):Prop:=∀ T,cL dl oc dc T→∃ T',cL dl oc dc T'∧bRy dl sk dc ov x ((aFr dl oc dc x).getD zero6) (aFr dl oc dc x).isSome T T'
def aQb(x:List Int):Prop:=∀ T,cL dl oc dc T→∃ T',cL dl oc dc T'∧bJb dl sk dc ov x (aFq dl oc dc x) T T'
def bKq(x:List Int):Prop:=∀ T,cL dl oc dc T→∃ T',cL dl oc dc T'∧xA dl sk dc ov x (rC dl oc dc x) T T'
end
section
variable {dl:Int} {sk dc:List (List Int)} {oc:List Int} {ov:PV}
theorem aYd(l:List (List Int))(hu:uni 6 l)(hl:l.length≤1000)(hC:∀ y∈l,oP dl sk dc oc ov y)(T:List (Int × Bool))(hT:cL dl oc dc T) :
  (∃ i T' y,l[i]? = some y∧(cW (dK y) && dY dl oc dc y)=true∧(∀ j z,j<i→l[j]? = some z→(cW (dK z) && dY dl oc dc z)=false)∧cL dl oc dc T'∧aF Tryz.prog 7 (sub (cd Tryz.f153) [1,0,1,0,0]) (cU dl sk dc ov 0 l l.length (aH T) T.length 0 0 0 0 0 0) .ret (bG (cU dl sk dc ov i l l.length (aH T') T'.length (y.getD 0 0) (y.getD 1 0) (y.getD 2 0) (y.getD 3 0) (y.getD 4 0) (y.getD 5 0)) [(7,.kb true)])) ∨
  ((l.find? fun y=>cW (dK y) && dY dl oc dc y)=none∧∃ T',cL dl oc dc T'∧aF Tryz.prog 7 (sub (cd Tryz.f153) [1,0,1,0,0]) (cU dl sk dc ov 0 l l.length (aH T) T.length 0 0 0 0 0 0) (.exit 0) (cU dl sk dc ov l.length l l.length (aH T') T'.length 0 0 0 0 0 0)):=by
 have hx:∀ i,i<l.length→∃ a b c d e f,l[i]? = some [a,b,c,d,e,f]∧l.getD i []=[a,b,c,d,e,f]∧[a,b,c,d,e,f]∈l:=fun i hi=>by
  obtain ⟨a,b,c,d,e,f,h⟩:=len6 (hu _ (List.getElem_mem hi))
  have h1:l[i]? = some [a,b,c,d,e,f]:=by rw [List.getElem?_eq_getElem hi,h]
  exact ⟨a,b,c,d,e,f,h1,by rw [List.getD_eq_getElem?_getD,h1];rfl,List.mem_of_getElem? h1⟩
 rcases aF.exF (P:=Tryz.prog) (k:=7) (b:=sub (cd Tryz.f153) [1,0,1,0,0]) (e1 := .ret) (e2 := .exit 0) (fun i T=>cU dl sk dc ov i l l.length (aH T) T.length 0 0 0 0 0 0)
  (fun i T=>bG (cU dl sk dc ov i l l.length (aH T) T.length ((l.getD i []).getD 0 0) ((l.getD i []).getD 1 0) ((l.getD i []).getD 2 0) ((l.getD i []).getD 3 0) ((l.getD i []).getD 4 0) ((l.getD i []).getD 5 0)) [(7,.kb true)])
  (fun T=>cU dl sk dc ov l.length l l.length (aH T) T.length 0 0 0 0 0 0) (cL dl oc dc) (by simp) (by simp) (fun i=>cW (dK (l.getD i [])) && dY dl oc dc (l.getD i [])) l.length
  (fun i T1 hi h1 hp=>by
   obtain ⟨a,b,c,d,e,f,g1,g2,g3⟩:=hx i hi
   rw [g2] at hp
   cases hq:cW b with
   | false=>exact ⟨T1,h1,aNe (by omega) g1 hu hq (aR (by omega)) rfl⟩
   | true =>
    have hp:(cW b && dY dl oc dc [a,b,c,d,e,f])=false:=hp
    rw [hq,Bool.true_and] at hp
    obtain ⟨T2,h2,c2⟩:=hC _ g3 T1 h1
    rw [hp] at c2
    exact ⟨T2,h2,aNd (by omega) g1 hu hq c2 rfl (aR (by omega)) rfl rfl rfl⟩)
  (fun i T1 hi h1 hp=>by
   obtain ⟨a,b,c,d,e,f,g1,g2,g3⟩:=hx i hi
   rw [g2] at hp ⊢
   rw [Bool.and_eq_true] at hp
   obtain ⟨T2,h2,c2⟩:=hC _ g3 T1 h1
   rw [hp.2] at c2
   exact ⟨T2,h2,aNc (by omega) g1 hu hp.1 c2 rfl rfl rfl⟩)
  (fun T1 h1=>aNf (by omega)) hT with ⟨i,T',h1,h2,h3,h4,h5⟩ | ⟨h1,T',h2,h3⟩
 ·obtain ⟨a,b,c,d,e,f,g1,g2,g3⟩:=hx i h1
  rw [g2] at h2 h5
  refine .inl ⟨i,T',_,g1,h2,fun j z hj hz => ?_,h4,h5⟩
  have:=h3 j hj
  rw [List.getD_eq_getElem?_getD,hz] at this
  exact this
 ·refine .inr ⟨?_,T',h2,h3⟩
  rw [List.find?_eq_none]
  intro y hy
  obtain ⟨i,hi,rfl⟩:=List.mem_iff_getElem.1 hy
  have:=h1 i hi
  rw [List.getD_eq_getElem?_getD,List.getElem?_eq_getElem hi] at this
  simpa using this
theorem bIz(hd:cH dc){x:List Int}(hx:x∈dc)(hC:∀ y∈cA dc (dN x),oP dl sk dc oc ov y):bKn dl sk dc oc ov 155 (fun y=>cW (dK y)) x:=fun T hT=>by
 have hn:=fR hd hx
 have hk:=aFj hd hn
 have hL:=aYd (cA dc (dN x)) (gQ hd _) (vG hd _) hC T hT
 obtain ⟨x0,x1,x2,x3,x4,x5,rfl⟩:=len6 (hd.ud x hx)
 rcases aFk hd (n:=dN [x0,x1,x2,x3,x4,x5]) (by omega) with ⟨h1,h2⟩ | ⟨h1,h2⟩
 ·rcases hL with ⟨i,T',y,q1,q2,q3,q4,q5⟩ | ⟨q1,T',q2,q3⟩
  ·have hf:=aQa (p:=fun y=>cW (dK y) && dY dl oc dc y) q1 q2 q3
   rw [hf]
   obtain ⟨a,b,c,d,e,f,rfl⟩:=len6 (gQ hd _ _ (List.mem_of_getElem? q1))
   exact ⟨T',q4,bJg hk h1 h2 q5⟩
  ·rw [q1]
   exact ⟨T',q2,bJf hk h1 h2 q3⟩
 ·rw [h2] at hL ⊢
  rcases hL with ⟨i,T',y,q1,q2,q3,q4,q5⟩ | ⟨q1,T',q2,q3⟩
  ·simp at q1
  ·exact ⟨T',q2,bJh hk h1 q3⟩
theorem aYe(l:List (List Int))(hu:uni 6 l)(hl:l.length≤1000)(hC:∀ y∈l,oP dl sk dc oc ov y)(T:List (Int × Bool))(hT:cL dl oc dc T) :
  (∃ i T' y,l[i]? = some y∧(dK y == 6 && dY dl oc dc y)=true∧(∀ j z,j<i→l[j]? = some z→(dK z == 6 && dY dl oc dc z)=false)∧cL dl oc dc T'∧aF Tryz.prog 7 (sub (cd Tryz.f153) [1,0,1,0,0]) (cV dl sk dc ov 0 l l.length (aH T) T.length 0 0 0 0 0 0) .ret (bG (cV dl sk dc ov i l l.length (aH T') T'.length (y.getD 0 0) (y.getD 1 0) (y.getD 2 0) (y.getD 3 0) (y.getD 4 0) (y.getD 5 0)) [(7,.kb true)])) ∨
  ((l.find? fun y=>dK y == 6 && dY dl oc dc y)=none∧∃ T',cL dl oc dc T'∧aF Tryz.prog 7 (sub (cd Tryz.f153) [1,0,1,0,0]) (cV dl sk dc ov 0 l l.length (aH T) T.length 0 0 0 0 0 0) (.exit 0) (cV dl sk dc ov l.length l l.length (aH T') T'.length 0 0 0 0 0 0)):=by
 have hx:∀ i,i<l.length→∃ a b c d e f,l[i]? = some [a,b,c,d,e,f]∧l.getD i []=[a,b,c,d,e,f]∧[a,b,c,d,e,f]∈l:=fun i hi=>by
  obtain ⟨a,b,c,d,e,f,h⟩:=len6 (hu _ (List.getElem_mem hi))
  have h1:l[i]? = some [a,b,c,d,e,f]:=by rw [List.getElem?_eq_getElem hi,h]
  exact ⟨a,b,c,d,e,f,h1,by rw [List.getD_eq_getElem?_getD,h1];rfl,List.mem_of_getElem? h1⟩
 rcases aF.exF (P:=Tryz.prog) (k:=7) (b:=sub (cd Tryz.f153) [1,0,1,0,0]) (e1 := .ret) (e2 := .exit 0) (fun i T=>cV dl sk dc ov i l l.length (aH T) T.length 0 0 0 0 0 0)
  (fun i T=>bG (cV dl sk dc ov i l l.length (aH T) T.length ((l.getD i []).getD 0 0) ((l.getD i []).getD 1 0) ((l.getD i []).getD 2 0) ((l.getD i []).getD 3 0) ((l.getD i []).getD 4 0) ((l.getD i []).getD 5 0)) [(7,.kb true)])
  (fun T=>cV dl sk dc ov l.length l l.length (aH T) T.length 0 0 0 0 0 0) (cL dl oc dc) (by simp) (by simp) (fun i=>dK (l.getD i []) == 6 && dY dl oc dc (l.getD i [])) l.length
  (fun i T1 hi h1 hp=>by
   obtain ⟨a,b,c,d,e,f,g1,g2,g3⟩:=hx i hi
   rw [g2] at hp
   cases hq:(b == 6) with
   | false=>exact ⟨T1,h1,aNi (by omega) g1 hu hq (aR (by omega)) rfl⟩
   | true =>
    have hp:((b == 6) && dY dl oc dc [a,b,c,d,e,f])=false:=hp
    rw [hq,Bool.true_and] at hp
    obtain ⟨T2,h2,c2⟩:=hC _ g3 T1 h1
    rw [hp] at c2
    exact ⟨T2,h2,aNh (by omega) g1 hu hq c2 rfl (aR (by omega)) rfl rfl rfl⟩)
  (fun i T1 hi h1 hp=>by
   obtain ⟨a,b,c,d,e,f,g1,g2,g3⟩:=hx i hi
   rw [g2] at hp ⊢
   rw [Bool.and_eq_true] at hp
   obtain ⟨T2,h2,c2⟩:=hC _ g3 T1 h1
   rw [hp.2] at c2
   exact ⟨T2,h2,aNg (by omega) g1 hu hp.1 c2 rfl rfl rfl⟩)
  (fun T1 h1=>aNj (by omega)) hT with ⟨i,T',h1,h2,h3,h4,h5⟩ | ⟨h1,T',h2,h3⟩
 ·obtain ⟨a,b,c,d,e,f,g1,g2,g3⟩:=hx i h1
  rw [g2] at h2 h5
  refine .inl ⟨i,T',_,g1,h2,fun j z hj hz => ?_,h4,h5⟩
  have:=h3 j hj
  rw [List.getD_eq_getElem?_getD,hz] at this
  exact this
 ·refine .inr ⟨?_,T',h2,h3⟩
  rw [List.find?_eq_none]
  intro y hy
  obtain ⟨i,hi,rfl⟩:=List.mem_iff_getElem.1 hy
  have:=h1 i hi
  rw [List.getD_eq_getElem?_getD,List.getElem?_eq_getElem hi] at this
  simpa using this
theorem bJa(hd:cH dc){x:List Int}(hx:x∈dc)(hC:∀ y∈cA dc (dN x),oP dl sk dc oc ov y):bKn dl sk dc oc ov 159 (fun y=>dK y == 6) x:=fun T hT=>by
 have hn:=fR hd hx
 have hk:=aFj hd hn
 have hL:=aYe (cA dc (dN x)) (gQ hd _) (vG hd _) hC T hT
 obtain ⟨x0,x1,x2,x3,x4,x5,rfl⟩:=len6 (hd.ud x hx)
 rcases aFk hd (n:=dN [x0,x1,x2,x3,x4,x5]) (by omega) with ⟨h1,h2⟩ | ⟨h1,h2⟩
 ·rcases hL with ⟨i,T',y,q1,q2,q3,q4,q5⟩ | ⟨q1,T',q2,q3⟩
  ·have hf:=aQa (p:=fun y=>dK y == 6 && dY dl oc dc y) q1 q2 q3
   rw [hf]
   obtain ⟨a,b,c,d,e,f,rfl⟩:=len6 (gQ hd _ _ (List.mem_of_getElem? q1))
   exact ⟨T',q4,bJj hk h1 h2 q5⟩
  ·rw [q1]
   exact ⟨T',q2,bJi hk h1 h2 q3⟩
 ·rw [h2] at hL ⊢
  rcases hL with ⟨i,T',y,q1,q2,q3,q4,q5⟩ | ⟨q1,T',q2,q3⟩
  ·simp at q1
  ·exact ⟨T',q2,bJk hk h1 q3⟩

theorem bDq(hd:cH dc){x:List Int}(hx:x∈dc)(hC:∀ y∈cA dc (dN x),oP dl sk dc oc ov y):bKo dl sk dc oc ov x:=fun T hT=>by
 obtain ⟨T',h1,h2⟩:=bIz hd hx hC T hT
 rw [← aAe hd hx] at h2
 obtain ⟨x0,x1,x2,x3,x4,x5,rfl⟩:=len6 (hd.ud x hx)
 have hz:∀ z,sF dl oc dc [x0,x1,x2,x3,x4,x5]=some z→z.length=6:=fun z hz=>by
  rw [aAe hd hx] at hz
  exact gQ hd _ z (List.mem_of_find?_eq_some hz)
 cases hr:sF dl oc dc [x0,x1,x2,x3,x4,x5] with
 | none =>
  rw [hr] at h2
  exact ⟨T',h1,bDu (z0:=0) (z1:=0) (z2:=0) (z3:=0) (z4:=0) (z5:=0) h2⟩
 | some z =>
  obtain ⟨a,b,c,d,e,f,rfl⟩:=len6 (hz z hr)
  rw [hr] at h2
  exact ⟨T',h1,bDu h2⟩
theorem bRv(hd:cH dc){x:List Int}(hx:x∈dc)(hC:∀ y∈cA dc (dN x),oP dl sk dc oc ov y):bKp dl sk dc oc ov x:=fun T hT=>by
 obtain ⟨T',h1,h2⟩:=bJa hd hx hC T hT
 rw [← aAf hd hx] at h2
 obtain ⟨x0,x1,x2,x3,x4,x5,rfl⟩:=len6 (hd.ud x hx)
 have hz:∀ z,aFr dl oc dc [x0,x1,x2,x3,x4,x5]=some z→z.length=6:=fun z hz=>by
  rw [aAf hd hx] at hz
  exact gQ hd _ z (List.mem_of_find?_eq_some hz)
 cases hr:aFr dl oc dc [x0,x1,x2,x3,x4,x5] with
 | none =>
  rw [hr] at h2
  exact ⟨T',h1,bDv (z0:=0) (z1:=0) (z2:=0) (z3:=0) (z4:=0) (z5:=0) h2⟩
 | some z =>
  obtain ⟨a,b,c,d,e,f,rfl⟩:=len6 (hz z hr)
  rw [hr] at h2
  exact ⟨T',h1,bDv h2⟩
theorem bDr(hd:cH dc)(hov:∀ n,qS ov n (oc.contains n)){x:List Int}(hx:x∈dc)(hC:∀ y∈cA dc (dN x),oP dl sk dc oc ov y):aQb dl sk dc oc ov x:=fun T hT=>by
 obtain ⟨T',h1,h2⟩:=bDq hd hx hC T hT
 rw [bSo hd hx]
 obtain ⟨x0,x1,x2,x3,x4,x5,rfl⟩:=len6 (hd.ud x hx)
 have hz:∀ z,sF dl oc dc [x0,x1,x2,x3,x4,x5]=some z→z.length=6:=fun z hz=>by
  rw [aAe hd hx] at hz
  exact gQ hd _ z (List.mem_of_find?_eq_some hz)
 cases hr:sF dl oc dc [x0,x1,x2,x3,x4,x5] with
 | none =>
  rw [hr] at h2
  exact ⟨T',h1,bSj (z0:=0) (z1:=0) (z2:=0) (z3:=0) (z4:=0) (z5:=0) h2 rfl (hov _)⟩
 | some z =>
  obtain ⟨a,b,c,d,e,f,rfl⟩:=len6 (hz z hr)
  rw [hr] at h2
  exact ⟨T',h1,bSi h2 rfl rfl⟩
abbrev oG(dl:Int)(oc:List Int)(dc:List (List Int))(x y:List Int):Bool:=tV x y && dY dl oc dc y && (dK y == 5 || aFq dl oc dc y)
theorem bDs{x0 x1 x2 x3 x4 x5:Int}(hd:cH dc)(l:List (List Int))(hu:uni 6 l)(hl:l.length≤1000)(hC:∀ y∈l,oP dl sk dc oc ov y)(hU:∀ y∈l,aQb dl sk dc oc ov y)(T:List (Int × Bool))(hT:cL dl oc dc T)(is:Bool) :
  ∃ T',cL dl oc dc T'∧aF Tryz.prog 7 (sub (cd Tryz.f154) [1,1,1,0,1,0,0]) (bX dl sk dc ov x0 x1 x2 x3 x4 x5 is 0 l l.length (aH T) T.length) (.exit 0) (bX dl sk dc ov x0 x1 x2 x3 x4 x5 (is && !(l.any (oG dl oc dc [x0,x1,x2,x3,x4,x5]))) l.length l l.length (aH T') T'.length):=by
 have hx:∀ i,i<l.length→∃ a b c d e f,l[i]? = some [a,b,c,d,e,f]∧[a,b,c,d,e,f]∈l:=fun i hi=>by
  obtain ⟨a,b,c,d,e,f,h⟩:=len6 (hu _ (List.getElem_mem hi))
  have h1:l[i]? = some [a,b,c,d,e,f]:=by rw [List.getElem?_eq_getElem hi,h]
  exact ⟨a,b,c,d,e,f,h1,List.mem_of_getElem? h1⟩
 have et:∀ i y,l[i]? = some y→(l.take (i+1)).any (oG dl oc dc [x0,x1,x2,x3,x4,x5])=((l.take i).any (oG dl oc dc [x0,x1,x2,x3,x4,x5]) || oG dl oc dc [x0,x1,x2,x3,x4,x5] y):=fun i y h=>by
  rw [List.take_add_one,h,List.any_append];simp
 obtain ⟨acc, ⟨h1,h2⟩,h3⟩:=aF.ex (P:=Tryz.prog) (k:=7) (b:=sub (cd Tryz.f154) [1,1,1,0,1,0,0]) (e := .exit 0) (fun i (a:Bool × List (Int × Bool))=>bX dl sk dc ov x0 x1 x2 x3 x4 x5 a.1 i l l.length (aH a.2) a.2.length)
  (fun a=>bX dl sk dc ov x0 x1 x2 x3 x4 x5 a.1 l.length l l.length (aH a.2) a.2.length) (fun i a=>cL dl oc dc a.2∧a.1=(is && !((l.take i).any (oG dl oc dc [x0,x1,x2,x3,x4,x5])))) (by simp) l.length
  (fun i acc hi hI=>by
   obtain ⟨b,T1⟩:=acc
   obtain ⟨h1,h2⟩:=hI
   dsimp only at h1 h2
   obtain ⟨a,k,c,d,e,f,g1,g3⟩:=hx i hi
   rw [et i _ g1]
   cases hb:b with
   | false =>
    rw [hb] at h2
    have hI:∀ q:Bool,false=(is && !((l.take i).any (oG dl oc dc [x0,x1,x2,x3,x4,x5]) || q)):=fun q=>by
     revert h2
     cases is <;> cases (l.take i).any (oG dl oc dc [x0,x1,x2,x3,x4,x5]) <;> cases q <;> simp
    by_cases h5:k=5
    ·exact ⟨(false,T1),⟨h1,hI _⟩,aYh (by omega) g1 hu h5 rfl (aR (by omega)) rfl⟩
    ·by_cases h7:k=7
     ·exact ⟨(false,T1),⟨h1,hI _⟩,aYm (by omega) g1 hu h5 h7 rfl (aR (by omega)) rfl⟩
     ·exact ⟨(false,T1),⟨h1,hI _⟩,aYo (by omega) g1 hu h5 h7 rfl (aR (by omega)) rfl⟩
   | true =>
    rw [hb] at h2
    have hI:∀ q:Bool,(!q)=(is && !((l.take i).any (oG dl oc dc [x0,x1,x2,x3,x4,x5]) || q)):=fun q=>by
     revert h2
     cases is <;> cases (l.take i).any (oG dl oc dc [x0,x1,x2,x3,x4,x5]) <;> cases q <;> simp
    have hIt:∀ q:Bool,q=true→false=(is && !((l.take i).any (oG dl oc dc [x0,x1,x2,x3,x4,x5]) || q)):=fun q hq=>by
     rw [← hI,hq];rfl
    have hIf:∀ q:Bool,q=false→true=(is && !((l.take i).any (oG dl oc dc [x0,x1,x2,x3,x4,x5]) || q)):=fun q hq=>by
     rw [← hI,hq];rfl
    obtain ⟨T2,q1,q2⟩:=hC _ g3 T1 h1
    by_cases h5:k=5
    ·cases hc:dY dl oc dc [a,k,c,d,e,f] with
     | true =>
      rw [hc] at q2
      exact ⟨(false,T2),⟨q1,hIt _ (by subst h5;simp [oG,tV,hc])⟩,aYf (by omega) g1 hu h5 rfl q2 rfl (aR (by omega)) rfl rfl rfl⟩
     | false =>
      rw [hc] at q2
      exact ⟨(true,T2),⟨q1,hIf _ (by simp [oG,hc])⟩,aYg (by omega) g1 hu h5 rfl q2 rfl (aR (by omega)) rfl rfl rfl⟩
    ·by_cases h7:k=7
     ·cases hr:cW x1 with
      | true=>exact ⟨(true,T1),⟨h1,hIf _ (by simp [oG,tV,hr,h5])⟩,aYl (by omega) g1 hu h5 h7 rfl hr (aR (by omega)) rfl⟩
      | false =>
       cases hc:dY dl oc dc [a,k,c,d,e,f] with
       | true =>
        rw [hc] at q2
        obtain ⟨T3,q3,q4⟩:=hU _ g3 T2 q1
        cases hu2:aFq dl oc dc [a,k,c,d,e,f] with
        | true =>
         rw [hu2] at q4
         exact ⟨(false,T3),⟨q3,hIt _ (by subst h7;simp [oG,tV,hc,hr,hu2])⟩,aYi (by omega) g1 hu h5 h7 rfl hr q2 rfl q4 rfl (aR (by omega)) rfl rfl rfl⟩
        | false =>
         rw [hu2] at q4
         exact ⟨(true,T3),⟨q3,hIf _ (by simp [oG,tV,hu2,h5])⟩,aYj (by omega) g1 hu h5 h7 rfl hr q2 rfl q4 rfl (aR (by omega)) rfl rfl rfl⟩
       | false =>
        rw [hc] at q2
        exact ⟨(true,T2),⟨q1,hIf _ (by simp [oG,hc])⟩,aYk (by omega) g1 hu h5 h7 rfl hr q2 rfl (aR (by omega)) rfl rfl rfl⟩
     ·exact ⟨(true,T1),⟨h1,hIf _ (by simp [oG,tV,h5,h7])⟩,aYn (by omega) g1 hu h5 h7 rfl (aR (by omega)) rfl⟩)
  (fun acc hI=>aNk (by omega)) (acc:=(is,T)) ⟨hT,by simp⟩
 obtain ⟨b,T1⟩:=acc
 dsimp only at h1 h2 h3
 rw [List.take_length] at h2
 rw [h2] at h3
 exact ⟨T1,h1,h3⟩
theorem bRw(hd:cH dc){x:List Int}(hx:x∈dc)(hC:∀ y∈cA dc (dN x),oP dl sk dc oc ov y)(hU:∀ y∈cA dc (dN x),aQb dl sk dc oc ov y):oP dl sk dc oc ov x:=fun T hT=>by
 have hn:=fR hd hx
 have hk:=aFj hd hn
 obtain ⟨x0,x1,x2,x3,x4,x5,rfl⟩:=len6 (hd.ud x hx)
 obtain ⟨T',h1,hL⟩:=bDs (x0:=x0) (x1:=x1) (x2:=x2) (x3:=x3) (x4:=x4) (x5:=x5) hd (cA dc (dN [x0,x1,x2,x3,x4,x5])) (gQ hd _) (vG hd _) hC hU T hT (!mF dl [x0,x1,x2,x3,x4,x5])
 have hc:(!mF dl [x0,x1,x2,x3,x4,x5] && !((cA dc (dN [x0,x1,x2,x3,x4,x5])).any (oG dl oc dc [x0,x1,x2,x3,x4,x5])))=dY dl oc dc [x0,x1,x2,x3,x4,x5]:=(bSn hd hx).symm
 rw [hc] at hL
 cases hh:dO (aH T) (.int .i64 (dN [x0,x1,x2,x3,x4,x5])) with
 | true=>exact ⟨T,hT,bSd (hT.keys hd hn) hh (hT.look hd hx hh)⟩
 | false =>
  cases hh2:dO (aH T') (.int .i64 (dN [x0,x1,x2,x3,x4,x5])) with
  | true =>
   refine ⟨T',h1,?_⟩
   rcases aFk hd (n:=dN [x0,x1,x2,x3,x4,x5]) (by omega) with ⟨a1,a2⟩ | ⟨a1,a2⟩
   ·have:=bSe (x0:=x0) (hT.keys hd hn) hh hk a1 a2 hL (h1.keys hd hn) hh2
    rw [show nM (aH T') (.int .i64 x0) (blP (dY dl oc dc [x0,x1,x2,x3,x4,x5]))=aH T' from h1.again hd hx] at this
    exact this
   ·rw [a2] at hL
    have:=bSg (x0:=x0) (hT.keys hd hn) hh hk a1 hL (h1.keys hd hn) hh2
    rw [show nM (aH T') (.int .i64 x0) (blP (dY dl oc dc [x0,x1,x2,x3,x4,x5]))=aH T' from h1.again hd hx] at this
    exact this
  | false =>
   refine ⟨T'++[(x0,dY dl oc dc [x0,x1,x2,x3,x4,x5])],h1.put hx hh2,?_⟩
   have e1:(T'++[(x0,dY dl oc dc [x0,x1,x2,x3,x4,x5])]).length=T'.length+1:=by simp
   unfold pT dE
   rw [aYp,e1]
   rcases aFk hd (n:=dN [x0,x1,x2,x3,x4,x5]) (by omega) with ⟨a1,a2⟩ | ⟨a1,a2⟩
   ·exact bSf (hT.keys hd hn) hh hk a1 a2 hL (h1.keys hd hn) hh2
   ·rw [a2] at hL
    exact bSh (hT.keys hd hn) hh hk a1 hL (h1.keys hd hn) hh2
theorem pR(hd:cH dc){x y:List Int}(hx:x∈dc)(hy:y∈cA dc (dN x)):y∈dc∧dN x<dN y:=by
 obtain ⟨h1,h2⟩:=eN hy
 exact ⟨h1,bDx hd h1 h2 (fR hd hx).1⟩
theorem aFl(hd:cH dc)(hov:∀ n,qS ov n (oc.contains n)):∀ (n:Nat) (x:List Int),x∈dc→10000-dN x≤(n:Int)→oP dl sk dc oc ov x
 | 0,x,hx,h=>by have:=fR hd hx;omega
 | n+1,x,hx,h=>bRw hd hx (fun y hy=>by
   obtain ⟨h1,h2⟩:=pR hd hx hy
   exact aFl hd hov n y h1 (by omega)) (fun y hy=>by
   obtain ⟨h1,h2⟩:=pR hd hx hy
   exact bDr hd hov h1 fun z hz=>by
    obtain ⟨h3,h4⟩:=pR hd h1 hz
    exact aFl hd hov n z h3 (by omega))
theorem bDt(hd:cH dc)(hov:∀ n,qS ov n (oc.contains n)){x:List Int}(hx:x∈dc):oP dl sk dc oc ov x:=aFl hd hov 10000 x hx (by have:=fR hd hx;omega)
theorem bUe(hd:cH dc)(hov:∀ n,qS ov n (oc.contains n)){x:List Int}(hx:x∈dc):bKo dl sk dc oc ov x:=bDq hd hx fun y hy=>bDt hd hov (eN hy).1
theorem bUf(hd:cH dc)(hov:∀ n,qS ov n (oc.contains n)){x:List Int}(hx:x∈dc):bKp dl sk dc oc ov x:=bRv hd hx fun y hy=>bDt hd hov (eN hy).1
theorem bUg(hd:cH dc)(hov:∀ n,qS ov n (oc.contains n)){x:List Int}(hx:x∈dc):aQb dl sk dc oc ov x:=bDr hd hov hx fun y hy=>bDt hd hov (eN hy).1
theorem aQc(hd:cH dc)(hov:∀ n,qS ov n (oc.contains n)):∀ (n:Nat) (x:List Int),x∈dc→10000-dN x≤(n:Int)→bKq dl sk dc oc ov x
 | 0,x,hx,h=>by have:=fR hd hx;omega
 | n+1,x,hx,h=>fun T hT=>by
  obtain ⟨T',h1,h2⟩:=bUf (dl:=dl) (sk:=sk) hd hov hx T hT
  rw [aQg hd hx]
  cases hr:aFr dl oc dc x with
  | none =>
   rw [hr] at h2
   obtain ⟨x0,x1,x2,x3,x4,x5,rfl⟩:=len6 (hd.ud x hx)
   exact ⟨T',h1,bSl (z0:=0) (z1:=0) (z2:=0) (z3:=0) (z4:=0) (z5:=0) h2 rfl⟩
  | some z =>
   have hz:z∈cA dc (dN x):=by
    rw [aAf hd hx] at hr
    exact List.mem_of_find?_eq_some hr
   obtain ⟨a1,a2⟩:=pR hd hx hz
   obtain ⟨T2,h3,h4⟩:=aQc hd hov n z a1 (by omega) T' h1
   rw [hr] at h2
   obtain ⟨x0,x1,x2,x3,x4,x5,rfl⟩:=len6 (hd.ud x hx)
   obtain ⟨a,b,c,d,e,f,rfl⟩:=len6 (hd.ud z a1)
   exact ⟨T2,h3,bSk h2 rfl h4⟩
theorem bUh(hd:cH dc)(hov:∀ n,qS ov n (oc.contains n)){x:List Int}(hx:x∈dc):bKq dl sk dc oc ov x:=aQc hd hov 10000 x hx (by have:=fR hd hx;omega)
theorem aFm(n:Int):qS bR n (([]:List Int).contains n):=fun base=>FV.argwk (oC [] n (by simp)) (by kernel_rfl)
theorem aAb{l:List Int}(hl:l.length≤1000)(n:Int):qS (aJ l) n (l.contains n):=fun base=>oC l n hl
end
end
section
variable {P:Program} {T:TT} {E:Env} {C C0:Cx} {M M0 M1:Mem} {w w0:World}

def bkN(all:List Nat)(j:Nat):Option Nat:=all[j]?
def uB(all0:List Nat):List Nat→Mem→Option Upd
 | i::r,some o::m=>match mpO (bkN all0) o with
  | some o'=>(uB all0 r m).map ((i,o') :: ·)
  | none=>none
 | [],[]=>some []
 | _,_=>none

theorem aDk{all0:List Nat}:∀ {ids:List Nat} {m:Mem} {L:Upd},uB all0 ids m=some L→ids.Nodup →
  m.length=ids.length ∧
  ∀ (N:Mem),(∀ (p i:Nat) (o':AO),ids[p]? = some i→(bU (upds N L) i=some o'↔∃ o,m[p]? = some (some o)∧mpO (bkN all0) o=some o')) ∧
   ∀ j,j∉ids→bU (upds N L) j=bU N j
 | [],[],L,h,_=>by
  unfold uB at h;cases h
  refine ⟨rfl,fun N=>⟨fun p i o' hp=>by simp at hp,fun _ _=>rfl⟩⟩
 | i::r,some o::m,L,h,hd=>by
  unfold uB at h
  split at h
  ·rename_i o' ho
   simp only [Option.map_eq_some_iff] at h
   obtain ⟨L',hL',rfl⟩:=h
   obtain ⟨hd1,hd2⟩:=List.nodup_cons.1 hd
   obtain ⟨q1,q2⟩:=aDk (ids:=r) hL' hd2
   refine ⟨by simpa using q1,fun N => ?_⟩
   obtain ⟨r1,r4⟩:=q2 (bA N i (some o'))
   refine ⟨fun p j o2 hp => ?_,fun j hj => ?_⟩
   ·cases p with
    | zero =>
     simp at hp;subst hp
     simp only [upds]
     rw [r4 i hd1,cZ,if_pos rfl]
     constructor
     ·intro h;cases h;exact ⟨o,rfl,ho⟩
     ·rintro ⟨o3,h3,h4⟩
      simp at h3;subst h3
      rw [ho] at h4;exact h4
    | succ p =>
     simp only [upds]
     rw [List.getElem?_cons_succ] at hp
     rw [r1 p j o2 hp]
     rfl
   ·simp only [upds]
    rw [r4 j (fun e=>hj (List.mem_cons_of_mem _ e)),cZ,if_neg (fun e=>hj (by simp [e]))]
  ·cases h
 | [],_::_,L,h,_=>by unfold uB at h;cases h
 | _::_,[],L,h,_=>by unfold uB at h;cases h
 | _::_,none::_,L,h,_=>by unfold uB at h;cases h

theorem aAl{all0:List Nat}:∀ {ids:List Nat} {m:Mem} {L:Upd},uB all0 ids m=some L→∀ (p:Nat) (o1:AO),m[p]? = some (some o1)→∃ o',mpO (bkN all0) o1=some o'
 | [],[],L,h,p,o1,hp=>by simp at hp
 | i::r,some o::m,L,h,p,o1,hp=>by
  unfold uB at h
  split at h
  ·rename_i hx
   simp only [Option.map_eq_some_iff] at h
   obtain ⟨L',hL',_⟩:=h
   cases p with
   | zero=>simp at hp;subst hp;exact ⟨_,hx⟩
   | succ p=>exact aAl hL' p o1 (by simpa using hp)
  ·cases h
 | [],_::_,L,h,_,_,_=>by unfold uB at h;cases h
 | _::_,[],L,h,_,_,_=>by unfold uB at h;cases h
 | _::_,none::_,L,h,_,_,_=>by unfold uB at h;cases h

def Cx.backN(C C1:Cx)(all:List Nat):Cx :=
 {ι:=fun j=>match idx all j 0 with | some p=>C1.ι p | none=>C.ι j
  κ:=fun j=>match idx all j 0 with | some p=>C1.κ p | none=>C.κ j
  F:=C1.F }

theorem bEn{ids news:List Nat}{r y:AV}{L:Upd}{C1:Cx}{w':World}{u:Value}(hd:distinct 0 ids=true)(hda:distinct 0 (ids++news)=true)(hb:∀ i∈news,eY M i=true)
  (hs:rnM 0 ids (ids.map (at? M))=some M0) (hlv:∀ i∈ids,eP M i=true) (hU:uB (ids++news) (ids++news) M1=some L) (hy:mpA (bkN (ids++news)) r=some y)
  (hM:aV P C M w) (hF:Fr (C.rn 0 ids) M0 w C1 M1 w') (hM1:aV P C1 M1 w') (hr:Rep C1 M1 w' r u):Fr C M w (C.backN C1 (ids++news)) (upds M L) w'∧aV P (C.backN C1 (ids++news)) (upds M L) w'∧Rep (C.backN C1 (ids++news)) (upds M L) w' y u:=by
 obtain ⟨_,hnd⟩:=gY hd
 obtain ⟨_,hna⟩:=gY hda
 obtain ⟨hM0,hmp,hsrc⟩:=oU (k:=0) hM hd hs
 have hlen:M0.length=ids.length:=by have:=(xW hs).1;simpa using this
 generalize hall:ids++news=all at *
 obtain ⟨hl1,hup⟩:=aDk hU hna
 obtain ⟨u1,u4⟩:=hup M
 have hL:=hM0.le hF
 have inA:∀ (p i:Nat),ids[p]? = some i→all[p]? = some i:=fun p i h=>by
  rw [← hall,List.getElem?_append_left (List.getElem?_eq_some_iff.1 h).1];exact h
 have memA:∀ i,i∈all↔i∈ids∨i∈news:=fun i=>by rw [← hall];simp
 have newF:∀ (p i:Nat),all[p]? = some i→i∉ids→eY M i=true:=fun p i h hn=>by
  rcases (memA i).1 (List.mem_of_getElem? h) with h | h
  ·exact absurd h hn
  ·exact hb i h
 have oldP:∀ (p i:Nat),all[p]? = some i→i∈ids→ids[p]? = some i:=fun p i h hn=>by
  obtain ⟨q,hq,he⟩:=List.mem_iff_getElem.1 hn
  have h2:ids[q]? = some i:=by rw [List.getElem?_eq_getElem hq,he]
  have e1:=nY hna 0 h
  have e2:=nY hna 0 (inA q i h2)
  rw [e1] at e2
  have:p=q:=by simpa using e2
  rw [this];exact h2
 have rnp:∀ p i,ids[p]? = some i→rnI 0 ids i=some p:=fun p i h=>by
  have:=nY hnd 0 h
  unfold rnI
  rw [show Nat.blt i 0=false from rfl,this,Nat.zero_add]
 have shown0:∀ p i,ids[p]? = some i→∃ o o0,M[i]? = some (some o)∧o.live=true∧M0[p]? = some (some o0)∧o0.live=true∧(C.rn 0 ids).ι p=C.ι i∧(C.rn 0 ids).κ p=C.κ i:=fun p i hp=>by
  obtain ⟨o,h1,h2⟩:=dS (hlv i (List.mem_of_getElem? hp))
  obtain ⟨o0,h3,h4⟩:=hmp.fw _ _ _ (rnp p i hp) h1
  exact ⟨o,o0,h1,h2,h3,by rw [bO h4];exact h2,hmp.at_ _ _ (rnp p i hp)⟩
 have sh_of:∀ (p:Nat) (o0:AO),M0[p]? = some (some o0)→∃ i o,ids[p]? = some i∧M[i]? = some (some o)∧o.live=true∧o0.live=true∧(C.rn 0 ids).ι p=C.ι i:=fun p o0 hp=>by
  obtain ⟨hl,_⟩:=List.getElem?_eq_some_iff.1 hp
  have hp':ids[p]? = some ids[p]:=List.getElem?_eq_getElem (by omega)
  obtain ⟨o,o1,h1,h2,h3,h4,h5,_⟩:=shown0 p _ hp'
  rw [hp] at h3;cases h3
  exact ⟨_,o,hp',h1,h2,h4,h5⟩
 have apart:∀ (j:Nat) (o:AO) (b:Nat),j∉ids→M[j]? = some (some o)→o.live=true→C.ι j=some b→w'.heap[b]? = w.heap[b]? ∧ ¬ C1.F b∧∀ (p:Nat) (o1:AO),M1[p]? = some (some o1)→o1.live=true→C1.ι p≠some b:=fun j o b hj h1 h2 h3=>by
  have hb1:=hM.lt j o b h1 h2 h3
  have no0:∀ (p:Nat) (o0:AO),M0[p]? = some (some o0)→o0.live=true→(C.rn 0 ids).ι p≠some b:=fun p o0 hp _ he=>by
   obtain ⟨i,o2,q1,q2,q3,_,q4⟩:=sh_of p o0 hp
   rw [q4] at he
   have:=hM.inj j i o o2 b h1 h2 q2 q3 h3 he
   subst this
   exact hj (List.mem_of_getElem? q1)
  refine ⟨hF.keep b hb1 no0,fun hf => ?_,fun p o1 hp hl he => ?_⟩
  ·rcases hF.F2 b hf with q | q | ⟨p,o0,q1,q2,q3⟩
   ·exact hM.nF j o b h1 h2 h3 q
   ·omega
   ·exact no0 p o0 q1 q2 q3
  ·rcases hF.new p o1 b hp hl he with q | ⟨p0,o0,q1,q2,q3⟩
   ·omega
   ·exact no0 p0 o0 q1 q2 q3
 have ix:∀ j,(j∈all→∃ p,idx all j 0=some p∧all[p]? = some j)∧(j∉all→idx all j 0=none):=fun j=>by
  refine ⟨fun hj => ?_,fun hj => ?_⟩
  ·obtain ⟨p,hp,he⟩:=List.mem_iff_getElem.1 hj
   have:all[p]? = some j:=by rw [List.getElem?_eq_getElem hp,he]
   exact ⟨p,by simpa using nY hna 0 this,this⟩
  ·cases h1:idx all j 0 with
   | none=>rfl
   | some p =>
    obtain ⟨_,h2⟩:=sK _ _ _ _ h1
    exact absurd (List.mem_of_getElem? h2) hj
 have cls:∀ (j:Nat) (o':AO),(upds M L)[j]? = some (some o')→(∃ p o1,all[p]? = some j∧M1[p]? = some (some o1)∧mpO (bkN all) o1=some o'∧(C.backN C1 all).ι j=C1.ι p∧(C.backN C1 all).κ j=C1.κ p) ∨
   (j∉ids∧j∉all∧M[j]? = some (some o')∧(C.backN C1 all).ι j=C.ι j∧(C.backN C1 all).κ j=C.κ j):=fun j o' hj=>by
  rw [← bK] at hj
  by_cases hm:j∈all
  ·obtain ⟨p,hp1,hp2⟩:=(ix j).1 hm
   obtain ⟨o1,h1,h2⟩:=(u1 p j o' hp2).1 hj
   exact .inl ⟨p,o1,hp2,h1,h2,by simp [Cx.backN,hp1],by simp [Cx.backN,hp1]⟩
  ·have hn:=(ix j).2 hm
   rw [u4 j hm] at hj
   exact .inr ⟨fun h=>hm ((memA j).2 (.inl h)),hm,bK.1 hj,by simp [Cx.backN,hn],by simp [Cx.backN,hn]⟩
 have hF2:Fr C M w (C.backN C1 all) (upds M L) w':=by
  refine ⟨hF.os,hF.tape,hF.out,hF.size,fun b hb1 hn => ?_,fun i o ho => ?_,fun i o ho ty n cs hx => ?_,fun i o ho o' hx hl => ?_,fun j o b hj hl hjb => ?_,fun b hb=>hF.F1 b hb,fun b hb => ?_⟩
  ·exact hF.keep b hb1 fun p o0 hp hl he=>by
    obtain ⟨i,o2,q1,q2,q3,_,q4⟩:=sh_of p o0 hp
    rw [q4] at he
    exact hn i o2 q2 q3 he
  ·by_cases hm:i∈all
   ·obtain ⟨p,hp1,hp2⟩:=(ix i).1 hm
    have hmi:i∈ids:=Classical.byContradiction fun hni=>cS (newF p i hp2 hni) o ho
    obtain ⟨_,o0,_,_,h3,h4,h5,h6⟩:=shown0 p i (oldP p i hp2 hmi)
    obtain ⟨⟨o1,q1⟩,q2,q3⟩:=hF.ids p o0 h3
    refine ⟨?_,by simp only [Cx.backN,hp1];rw [q2,h5],by simp only [Cx.backN,hp1];rw [q3,h6]⟩
    obtain ⟨o',hq⟩:=aAl hU p o1 q1
    exact ⟨o',bK.1 ((u1 p i o' hp2).2 ⟨o1,q1,hq⟩)⟩
   ·refine ⟨⟨o,bK.1 (by rw [u4 i hm];exact bK.2 ho)⟩,by simp [Cx.backN,(ix i).2 hm],by simp [Cx.backN,(ix i).2 hm]⟩
  ·rcases cls i _ hx with ⟨p,o1,q1,q2,q3,_⟩ | ⟨_,_,q3,_⟩
   ·have hmi:i∈ids:=Classical.byContradiction fun hni=>cS (newF p i q1 hni) o ho
    have q1:=oldP p i q1 hmi
    rw [jX q3] at q2
    obtain ⟨o2,o0,h1,_,h3,_⟩:=shown0 p i q1
    obtain ⟨cs',h5⟩:=hF.row p o0 h3 _ _ _ q2
    obtain ⟨o4,h6,h7⟩:=hmp.bk _ _ _ (rnp p i q1) h5
    rw [jX h7] at h6
    exact ⟨cs',h6⟩
   ·exact ⟨cs,q3⟩
  ·rcases cls i _ hx with ⟨p,o1,q1,q2,q3,_⟩ | ⟨_,_,q3,_⟩
   ·have hmi:i∈ids:=Classical.byContradiction fun hni=>cS (newF p i q1 hni) o ho
    obtain ⟨o2,o0,h1,h2,h3,_⟩:=shown0 p i (oldP p i q1 hmi)
    rw [ho] at h1;cases h1
    exact h2
   ·rw [ho] at q3;cases q3;exact hl
  ·have fin:∀ (p:Nat) (o1:AO),M1[p]? = some (some o1)→o1.live=true→C1.ι p=some b→w.heap.size≤b∨∃ (id0:Nat) (o0:AO),M[id0]? = some (some o0)∧o0.live=true∧C.ι id0=some b:=fun p o1 h1 h2 h3=>by
    rcases hF.new p o1 b h1 h2 h3 with q | ⟨p0,o0,q1,q2,q3⟩
    ·exact .inl q
    ·obtain ⟨i,o2,r1,r2,r3,_,r4⟩:=sh_of p0 o0 q1
     rw [r4] at q3
     exact .inr ⟨i,o2,r2,r3,q3⟩
   rcases cls j _ hj with ⟨p,o1,q1,q2,q3,q4,_⟩ | ⟨_,_,q3,q4,_⟩
   ·rw [q4] at hjb
    exact fin p o1 q2 (by rw [← bO q3];exact hl) hjb
   ·rw [q4] at hjb
    exact .inr ⟨j,o,q3,hl,hjb⟩
  ·rcases hF.F2 b hb with q | q | ⟨p,o0,q1,q2,q3⟩
   ·exact .inl q
   ·exact .inr (.inl q)
   ·obtain ⟨i,o2,r1,r2,r3,_,r4⟩:=sh_of p o0 q1
    rw [r4] at q3
    exact .inr (.inr ⟨i,o2,r2,r3,q3⟩)
 have hL2:=hM.le hF2
 have hbk:aRb (bkN all) C1 (C.backN C1 all) M1 (upds M L):=by
  refine ⟨fun i j o' hij hj=>(u1 i j o' hij).1 (bK.2 hj),fun i j o hij hi => ?_,fun i j hij => ?_,fun _ h=>h⟩
  ·obtain ⟨o',hq⟩:=aAl hU i o hi
   exact ⟨o',bK.1 ((u1 i j o' hij).2 ⟨o,hi,hq⟩),hq⟩
  ·have:=nY hna 0 hij
   rw [Nat.zero_add] at this
   simp [Cx.backN,this]
 refine ⟨hF2,⟨fun j ty n cs h => ?_,fun j ty cs h => ?_,fun j es cl h => ?_,fun j j' o1 o2 b q1 l1 q2 l2 e1 e2 => ?_,fun j o b h hl hb => ?_,hM1.Fs,fun j o b h hl hb => ?_⟩,qB hbk hr hy⟩
 ·rcases cls j _ h with ⟨p,o1,q1,q2,q3,q4,q5⟩ | ⟨q1,_,q3,q4,q5⟩
  ·rw [jX q3] at q2
   rw [q4,q5]
   exact hM1.row _ _ _ _ q2
  ·rw [q4,q5]
   rcases hM.row _ _ _ _ q3 with q | ⟨b,arr,inf,p0,p1,p2,p3,p4,p5,p6,p7,p8⟩
   ·exact .inl q
   ·exact .inr ⟨b,arr,inf,p0,by rw [(apart j _ b q1 q3 rfl p0).1];exact p1,p2,p3,p4,p5,p6,fun i hi=>(p7 i hi).mono hL2.F hL2.fz,p8⟩
 ·rcases cls j _ h with ⟨p,o1,q1,q2,q3,q4,q5⟩ | ⟨q1,_,q3,q4,q5⟩
  ·cases o1 with
   | box ty' l =>
    simp only [mpO,Option.map_eq_some_iff] at q3
    obtain ⟨l',hl',e⟩:=q3
    cases e
    obtain ⟨b,arr,p0,p1,p2,p3,p4⟩:=hM1.box _ _ _ q2
    obtain ⟨n1,n2⟩:=fU hbk (w:=w') (us:=fun j=>arr.getD j undef) p3 hl'
    exact ⟨b,arr,by rw [q4];exact p0,p1,by omega,n2,fun j hj=>p4 j (by omega)⟩
   | row=>simp [mpO] at q3
   | mp=>simp [mpO] at q3
   | pk=>simp [mpO] at q3
   | dead=>simp [mpO] at q3
  ·obtain ⟨b,arr,p0,p1,p2,p3,p4⟩:=hM.box _ _ _ q3
   exact ⟨b,arr,by rw [q4];exact p0,by rw [(apart j _ b q1 q3 rfl p0).1];exact p1,p2,fun i hi=>(p3 i hi).mono hL2,p4⟩
 ·rcases cls j _ h with ⟨p,o1,q1,q2,q3,q4,q5⟩ | ⟨q1,_,q3,q4,q5⟩
  ·cases o1 with
   | mp es' cl' =>
    simp only [mpO,Option.some.injEq] at q3
    cases q3
    obtain ⟨b,arr,p0,p1,p2,p3⟩:=hM1.mp _ _ _ q2
    refine ⟨b,arr,by rw [q4];exact p0,p1,p2,fun j hj => ?_⟩
    obtain ⟨en,s1,s2,s3,s4⟩:=p3 j hj
    exact ⟨en,s1,s2,s3,s4.mono hbk.F (fun _ _=>rfl)⟩
   | row=>simp [mpO] at q3
   | box=>simp [mpO] at q3
   | pk=>simp [mpO] at q3
   | dead=>simp [mpO] at q3
  ·obtain ⟨b,arr,p0,p1,p2,p3⟩:=hM.mp _ _ _ q3
   refine ⟨b,arr,by rw [q4];exact p0,by rw [(apart j _ b q1 q3 rfl p0).1];exact p1,p2,fun i hi => ?_⟩
   obtain ⟨en,s1,s2,s3,s4⟩:=p3 i hi
   exact ⟨en,s1,s2,s3,s4.mono hL2.F hL2.fz⟩
 ·rcases cls j _ q1 with ⟨p,a1,r1,r2,r3,r4,_⟩ | ⟨r1,rb,r3,r4,_⟩ <;> rcases cls j' _ q2 with ⟨p',a2,t1,t2,t3,t4,_⟩ | ⟨t1,tb,t3,t4,_⟩
  all_goals (rw [r4] at e1;rw [t4] at e2)
  ·have:=hM1.inj p p' a1 a2 b r2 (by rw [← bO r3];exact l1) t2 (by rw [← bO t3];exact l2) e1 e2
   subst this
   rw [r1] at t1;cases t1;rfl
  ·exact absurd e1 ((apart j' o2 b t1 t3 l2 e2).2.2 p a1 r2 (by rw [← bO r3];exact l1))
  ·exact absurd e2 ((apart j o1 b r1 r3 l1 e1).2.2 p' a2 t2 (by rw [← bO t3];exact l2))
  ·exact hM.inj j j' o1 o2 b r3 l1 t3 l2 e1 e2
 ·rcases cls j _ h with ⟨p,o1,q1,q2,q3,q4,q5⟩ | ⟨q1,_,q3,q4,q5⟩
  ·rw [q4] at hb
   exact hM1.nF _ _ b q2 (by rw [← bO q3];exact hl) hb
  ·rw [q4] at hb
   exact (apart j o b q1 q3 hl hb).2.1
 ·rcases cls j _ h with ⟨p,o1,q1,q2,q3,q4,q5⟩ | ⟨q1,_,q3,q4,q5⟩
  ·rw [q4] at hb
   exact hM1.lt _ _ b q2 (by rw [← bO q3];exact hl) hb
  ·rw [q4] at hb
   exact Nat.lt_of_lt_of_le (hM.lt j o b q3 hl hb) hF.size

def bEo(ids news:List Nat)(args:List AV)(bs:Upd)(M1:Mem)(r:AV):Option (List AV × Mem × AV × Upd):=match distinct 0 ids && distinct 0 (ids++news) && ids.all (eP (upds [] bs)) with
 | true=>match rnM 0 ids (ids.map (at? (upds [] bs))) with
  | some M0=>match rnL 0 ids args with
   | some args0=>match uB (ids++news) (ids++news) M1 with
    | some L=>match mpA (bkN (ids++news)) r with
     | some y=>some (args0,M0,y,L)
     | none=>none
    | none=>none
   | none=>none
  | none=>none
 | false=>none
theorem FMM.fcN{f base k:Nat}(hk:Nat.ble k 8=true){ids:List Nat}{args args0:List AV}{bs:Upd}{r y:AV}{L:Upd}(h:FMM P f args0 M0 r M1)(hs:bEo ids ((List.range k).map (base + ·)) args bs M1 r=some (args0,M0,y,L)):FC P f args bs base y L:=fun M hb hf hf2=>by
 unfold bEo at hs
 have hsub:aJo (upds [] bs) M:=fun id o ho=>by
  rcases oS bs [] id o ho with h5 | h5
  ·exact hb _ h5
  ·simp [bU] at h5
 split at hs
 ·rename_i hd
  rw [Bool.and_eq_true,Bool.and_eq_true,List.all_eq_true] at hd
  obtain ⟨⟨hd1,hd2⟩,hd3⟩:=hd
  have hlv:∀ i∈ids,∃ o,bU (upds [] bs) i=some o∧bU M i=some o∧o.live=true:=fun i hi=>by
   obtain ⟨o,h1,h2⟩:=dS (hd3 i hi)
   exact ⟨o,bK.2 h1,hsub _ _ (bK.2 h1),h2⟩
  split at hs
  ·rename_i h1
   split at hs
   ·rename_i h2
    split at hs
    ·rename_i h3
     split at hs
     ·rename_i h4
      cases hs
      have he:ids.map (at? M)=ids.map (at? (upds [] bs)):=List.map_congr_left fun i hi=>by
       obtain ⟨o,q1,q2,_⟩:=hlv i hi
       unfold at?
       rw [q1,q2]
      intro C w us hus hM n
      have h1':rnM 0 ids (ids.map (at? M))=some M0:=by rw [he];exact h1
      obtain ⟨hM0,hmp,_⟩:=oU (k:=0) hM hd1 h1'
      refine (h (C.rn 0 ids) w us (aEp hmp hus h2) hM0 n).mono ?_
      rintro e w' ⟨u,rfl,C1,hF,hM1,hr⟩
      exact ⟨u,rfl,C.backN C1 (ids++(List.range k).map (base + ·)),bEn hd1 hd2 (fun i hi=>by
       obtain ⟨j,hj,rfl⟩:=List.mem_map.1 hi
       have hj:=List.mem_range.1 hj
       have hk:=Nat.le_of_ble_eq_true hk
       exact hf2 j (by omega)) h1' (fun i hi=>by
       obtain ⟨o,_,q2,q3⟩:=hlv i hi
       exact iD (bK.1 q2) q3) h3 h4 hM hF hM1 hr⟩
     ·cases hs
    ·cases hs
   ·cases hs
  ·cases hs
 ·cases hs
end
section

noncomputable abbrev eG:Code:=sub (cd Tryz.f134) [1,1,0,1,0,0]
noncomputable abbrev mN:Code:=sub (cd Tryz.f83) [1,1,1,0,1,0,0]
theorem bDi:0≤(0:Int)∧(0:Int)<(5:Int):=by first | decide | simp
theorem bDj:0≤(1:Int)∧(1:Int)<(5:Int):=by first | decide | simp
theorem bDk:0≤(2:Int)∧(2:Int)<(5:Int):=by first | decide | simp
theorem bDl:0≤(3:Int)∧(3:Int)<(5:Int):=by first | decide | simp
theorem bDm:0≤(4:Int)∧(4:Int)<(5:Int):=by first | decide | simp
abbrev wY(dl:Int)(sk dc:List (List Int))(ov:PV)(x:List Int)(bib:Int)(b:Bool)(T T2:List (Int × Bool)):Prop:=FMM Tryz.prog 136 [gS,.p (.agg (x.map aA)),.p (aA bib)] (dE dl sk dc ov T) (.p (blP b)) (dE dl sk dc ov T2)
abbrev aBb(dl:Int)(sk dc:List (List Int))(ov:PV)(s:List Int)(n:Int)(b:Bool)(T T2:List (Int × Bool)):Prop:=FMM Tryz.prog 134 [pS dl sk dc,.p (.agg (s.map aA)),gS] (dE dl sk dc ov T) (.tup [.p (aA n),.p (blP b)]) (dE dl sk dc ov T2)
theorem bRi{dl:Int}{sk dc:List (List Int)}{ov:PV}{T:List (Int × Bool)}{x0 x1 x2 x3 x4 x5 bib:Int}{b0:Bool}{T1:List (Int × Bool)}(h0:(decide (x1≤4))=true)(h1:x3=bib)(h2:pT dl sk dc ov [x0,x1,x2,x3,x4,x5] b0 T T1)(h3:b0=true)(h4:x1≠(4:Int)):FMM Tryz.prog 136 [gS,(.p (dcE x0 x1 x2 x3 x4 x5)),(.p (aA bib))] (dE dl sk dc ov T) (.p (blP true)) (dE dl sk dc ov T1):=by
 exact FMM.fin (k:=7) (g:=⟨[],[],[],[]⟩) rfl Tryz.func136 rfl (o:=[.c (.p (blP (decide (x1≤4)))) [],bT,bT,bT,bT,bT,bT,bT,bT,bT,.c (.p (blP b0)) (vU dl sk dc ov T1),bT,bT,bT,bT,bT,bT,bT,bT,bT,bT,bT,bT]) (l:=[_,_,_,_,_,_,_,_,_,_,_,_,FC Tryz.prog 154 [(.p (dcE x0 x1 x2 x3 x4 x5)),(.ptr 4 0),(.ptr 5 0),(.ptr 0 0),(.ptr 2 0)] [(4,(.box 207 [(.mp 3)])),(5,(vB5 dl sk dc)),(0,(vB0 dl sk dc)),(2,vB2),(3,(.mp (aH T) T.length)),(6,vB6),(1,(.box 33 [(.p ov)]))] 9 (.p (blP b0)) (vU dl sk dc ov T1),_,_,_,_,_,_,_,_,_,_]) (by kernel_rfl) (gc h3 (gc (cX h4) (gc h3 (gc (cX h4) (gc (cX h4) (gc (cX h4) (gc (cX h4) (gc h3 (gc h3 (gc h3 (gc h3 (gc (bE h1) (gc (FMM.fc (ids:=[0,1,2,3,4,5,6]) h2 (by kernel_rfl)) (gc (bE h1) (gc (bE h1) (gc (bE h1) (gc (bE h1) (gc h0 (gc h0 (gc h0 (gc h0 (gc h0 (gc (fk 9 (eK x1) rfl) gn)))))))))))))))))))))))
theorem bRj{dl:Int}{sk dc:List (List Int)}{ov:PV}{T:List (Int × Bool)}{x0 x1 x2 x3 x4 x5 bib:Int}{b0:Bool}{T1:List (Int × Bool)}{b2:Bool}{T3:List (Int × Bool)}(h0:(decide (x1≤4))=true)(h1:x3=bib)(h2:pT dl sk dc ov [x0,x1,x2,x3,x4,x5] b0 T T1)(h3:b0=true)(h4:x1=(4:Int))(h5:bJb dl sk dc ov [x0,x1,x2,x3,x4,x5] b2 T1 T3):FMM Tryz.prog 136 [gS,(.p (dcE x0 x1 x2 x3 x4 x5)),(.p (aA bib))] (dE dl sk dc ov T) (.p (blP b2)) (dE dl sk dc ov T3):=by
 exact FMM.fin (k:=7) (g:=⟨[],[],[],[]⟩) rfl Tryz.func136 rfl (o:=[.c (.p (blP (decide (x1≤4)))) [],bT,bT,bT,bT,bT,bT,bT,bT,bT,.c (.p (blP b0)) (vU dl sk dc ov T1),bT,bT,bT,bT,bT,bF,bF,bF,bF,.c (.p (blP b2)) (vU dl sk dc ov T3),bT,bF,bT]) (l:=[_,_,_,FC Tryz.prog 157 [(.p (dcE x0 x1 x2 x3 x4 x5)),(.ptr 2 0),(.ptr 1 0)] [(2,vB2),(1,(.box 33 [(.p ov)])),(4,(.box 207 [(.mp 3)])),(5,(vB5 dl sk dc)),(0,(vB0 dl sk dc)),(6,vB6),(3,(.mp (aH T1) T1.length))] 9 (.p (blP b2)) (vU dl sk dc ov T3),_,_,_,_,_,_,_,_,_,FC Tryz.prog 154 [(.p (dcE x0 x1 x2 x3 x4 x5)),(.ptr 4 0),(.ptr 5 0),(.ptr 0 0),(.ptr 2 0)] [(4,(.box 207 [(.mp 3)])),(5,(vB5 dl sk dc)),(0,(vB0 dl sk dc)),(2,vB2),(3,(.mp (aH T) T.length)),(6,vB6),(1,(.box 33 [(.p ov)]))] 9 (.p (blP b0)) (vU dl sk dc ov T1),_,_,_,_,_,_,_,_,_,_]) (by kernel_rfl) (gc h3 (gc (cE h4) (gc h3 (gc (FMM.fc (ids:=[0,1,2,3,4,5,6]) h5 (by kernel_rfl)) (gc (cE h4) (gc (cE h4) (gc (cE h4) (gc (cE h4) (gc h3 (gc h3 (gc h3 (gc h3 (gc (bE h1) (gc (FMM.fc (ids:=[0,1,2,3,4,5,6]) h2 (by kernel_rfl)) (gc (bE h1) (gc (bE h1) (gc (bE h1) (gc (bE h1) (gc h0 (gc h0 (gc h0 (gc h0 (gc h0 (gc (fk 9 (eK x1) rfl) gn))))))))))))))))))))))))
theorem bRk{dl:Int}{sk dc:List (List Int)}{ov:PV}{T:List (Int × Bool)}{x0 x1 x2 x3 x4 x5 bib:Int}{b0:Bool}{T1:List (Int × Bool)}(h0:(decide (x1≤4))=true)(h1:x3=bib)(h2:pT dl sk dc ov [x0,x1,x2,x3,x4,x5] b0 T T1)(h3:b0=false):FMM Tryz.prog 136 [gS,(.p (dcE x0 x1 x2 x3 x4 x5)),(.p (aA bib))] (dE dl sk dc ov T) (.p (blP false)) (dE dl sk dc ov T1):=by
 exact FMM.fin (k:=7) (g:=⟨[],[],[],[]⟩) rfl Tryz.func136 rfl (o:=[.c (.p (blP (decide (x1≤4)))) [],bT,bT,bT,bT,bT,bT,bT,bT,bT,.c (.p (blP b0)) (vU dl sk dc ov T1),bT,bF,bF,bF,bF,bF,bF]) (l:=[_,_,_,_,_,_,_,FC Tryz.prog 154 [(.p (dcE x0 x1 x2 x3 x4 x5)),(.ptr 4 0),(.ptr 5 0),(.ptr 0 0),(.ptr 2 0)] [(4,(.box 207 [(.mp 3)])),(5,(vB5 dl sk dc)),(0,(vB0 dl sk dc)),(2,vB2),(3,(.mp (aH T) T.length)),(6,vB6),(1,(.box 33 [(.p ov)]))] 9 (.p (blP b0)) (vU dl sk dc ov T1),_,_,_,_,_,_,_,_,_,_]) (by kernel_rfl) (gc h3 (gc h3 (gc h3 (gc h3 (gc h3 (gc h3 (gc (bE h1) (gc (FMM.fc (ids:=[0,1,2,3,4,5,6]) h2 (by kernel_rfl)) (gc (bE h1) (gc (bE h1) (gc (bE h1) (gc (bE h1) (gc h0 (gc h0 (gc h0 (gc h0 (gc h0 (gc (fk 9 (eK x1) rfl) gn))))))))))))))))))
theorem bRl{dl:Int}{sk dc:List (List Int)}{ov:PV}{T:List (Int × Bool)}{x0 x1 x2 x3 x4 x5 bib:Int}(h0:(decide (x1≤4))=true)(h1:x3≠bib):FMM Tryz.prog 136 [gS,(.p (dcE x0 x1 x2 x3 x4 x5)),(.p (aA bib))] (dE dl sk dc ov T) (.p (blP false)) (dE dl sk dc ov T):=by
 exact FMM.fin (k:=7) (g:=⟨[],[],[],[]⟩) rfl Tryz.func136 rfl (o:=[.c (.p (blP (decide (x1≤4)))) [],bT,bT,bT,bT,bT,bF,bF,bF,bF,bF]) (l:=[_,_,_,_,_,_,_,_,_,_,_]) (by kernel_rfl) (gc (aU h1) (gc (aU h1) (gc (aU h1) (gc (aU h1) (gc (aU h1) (gc h0 (gc h0 (gc h0 (gc h0 (gc h0 (gc (fk 9 (eK x1) rfl) gn)))))))))))
theorem bRm{dl:Int}{sk dc:List (List Int)}{ov:PV}{T:List (Int × Bool)}{x0 x1 x2 x3 x4 x5 bib:Int}(h0:(decide (x1≤4))=false):FMM Tryz.prog 136 [gS,(.p (dcE x0 x1 x2 x3 x4 x5)),(.p (aA bib))] (dE dl sk dc ov T) (.p (blP false)) (dE dl sk dc ov T):=by
 exact FMM.fin (k:=7) (g:=⟨[],[],[],[]⟩) rfl Tryz.func136 rfl (o:=[.c (.p (blP (decide (x1≤4)))) [],bF,bF,bF,bF,bF]) (l:=[_,_,_,_,_,_]) (by kernel_rfl) (gc h0 (gc h0 (gc h0 (gc h0 (gc h0 (gc (fk 9 (eK x1) rfl) gn))))))
theorem bRn{a b r0:Int}(h0:inR (a+b))(er0:r0=(a+b)){base:Nat}:FV Tryz.prog 212 [(.p (aA a)),(.p (aA b))] base (.p (aA r0)) []:=by
 subst er0
 exact FV.fin Tryz.func212 rfl (o:=[]) (l:=[_]) (by kernel_rfl) (gc h0 gn)
theorem bRo{a b r0:Int}(h0:inR (a-b))(er0:r0=(a-b)){base:Nat}:FV Tryz.prog 213 [(.p (aA a)),(.p (aA b))] base (.p (aA r0)) []:=by
 subst er0
 exact FV.fin Tryz.func213 rfl (o:=[]) (l:=[_]) (by kernel_rfl) (gc h0 gn)
theorem bRp{a b r0:Int}(h0:inR ((1200:Int)*b))(h1:inR (a+((1200:Int)*b)))(er0:r0=(a+((1200:Int)*b))){base:Nat}:FV Tryz.prog 214 [(.p (aA a)),(.p (aA b))] base (.p (aA r0)) []:=by
 subst er0
 exact FV.fin Tryz.func214 rfl (o:=[]) (l:=[_,_]) (by kernel_rfl) (gc h1 (gc h0 gn))
theorem bRq{a b:Int}{base:Nat}:FV Tryz.prog 215 [(.p (aA a)),(.p (aA b))] base (.p (aA a)) []:=by
 exact FV.fin Tryz.func215 rfl (o:=[]) (l:=[]) (by kernel_rfl) (gn)
theorem aFi(a b:Int)(h:inR (a+b)){base:Nat}:FV Tryz.prog 212 [.p (aA a),.p (aA b)] base (.p (aA (a+b))) []:=bRn h rfl
theorem bDn(a b:Int)(h:inR (a-b)){base:Nat}:FV Tryz.prog 213 [.p (aA a),.p (aA b)] base (.p (aA (a-b))) []:=bRo h rfl
theorem bDo(a b:Int)(h:inR (1200*b)∧inR (a+1200*b)){base:Nat}:FV Tryz.prog 214 [.p (aA a),.p (aA b)] base (.p (aA (a+1200*b))) []:=bRp h.1 h.2 rfl
theorem bDp(a b:Int){base:Nat}:FV Tryz.prog 215 [.p (aA a),.p (aA b)] base (.p (aA a)) []:=bRq
theorem mO{base:Nat}:FV Tryz.prog 183 [] base (.agg [(.fn 212 [] []),(.fn 213 [] []),(.fn 214 [] []),(.fn 215 [] []),(.fn 212 [] [])]) []:=by
 exact FV.fin Tryz.func183 rfl (o:=[]) (l:=[]) (by kernel_rfl) (gn)
def oF(l:List Int)(m:Int)(i:Nat):St:=⟨fr 18 [(0,(.p (aA m))),(4,(.p (aA 0))),(7,(.p (aJ l))),(8,(.p (aA (l.length:Int)))),(9,(.p (aA (i:Int))))],[]⟩
theorem bRr{a:Int}{l:List Int}{m'0:Int}{i'1:Nat}(hl0:aF Tryz.prog 0 (sub (cd Tryz.f184) [1,0,1,0,0]) (oF l a 0) (.exit 0) (oF l m'0 i'1)){base:Nat}:FV Tryz.prog 184 [(.p (aA a)),(.p (aJ l))] base (.p (aA m'0)) []:=by
 exact FV.fin Tryz.func184 rfl (o:=[.k 6 ⟨(rng [(1,3),(5,2),(10,7)]),[],[],[]⟩ (.exit 0) (oF l m'0 i'1)]) (l:=[_]) (by kernel_rfl) (gc hl0.code gn)
theorem aXm{l:List Int}{m:Int}{i:Nat}{x100 m':Int}{i':Nat}(h0:(i:Int)<(l.length:Int))(h1:l[i]? = some x100)(h2:inR (((i+1):Nat):Int))(em':m'=(if x100 > m then x100 else m))(ei':i'=(i+1)):aC Tryz.prog 0 (sub (cd Tryz.f184) [1,0,1,0,0]) (oF l m i) .normal (oF l m' i'):=by
 subst em' ei'
 exact aC.fin (g:=⟨(rng [(1,3),(5,2),(10,7)]),[],[],[]⟩) (o:=[bT,.x (aA x100)]) (l:=[_,_,_,_]) (by kernel_rfl) (gc h2 (gc (atm aA h1) (gc (ixn aA h1) (gc (aL h0) gn))))
theorem aXn{l:List Int}{m:Int}{i:Nat}(h0:(l.length:Int)≤(i:Int)):aC Tryz.prog 0 (sub (cd Tryz.f184) [1,0,1,0,0]) (oF l m i) (.exit 0) (oF l m i):=by
 exact aC.fin (g:=⟨(rng [(1,3),(5,2),(10,7)]),[],[],[]⟩) (o:=[bF]) (l:=[_]) (by kernel_rfl) (gc (aE h0) gn)
def wZ(a:Int)(l:List Int):Int:=l.foldl (fun m x=>if x > m then x else m) a
theorem aMz(a:Int)(l:List Int)(hl:l.length≤1000){base:Nat}:FV Tryz.prog 184 [.p (aA a),.p (aJ l)] base (.p (aA (wZ a l))) [] :=
 bRr (aF.range (P:=Tryz.prog) (k:=0) (e := .exit 0) (fun i m=>oF l m i) (fun m=>oF l m l.length) (fun m x=>if x > m then x else m) (fun _ _=>True) (by simp) l trivial
  (fun i x acc hx _=>⟨trivial,aXm (by have:=aS hx;omega) hx (aR (by have:=aS hx;omega)) rfl rfl⟩) (fun acc _=>aXn (by omega)))
def bQ(dl:Int)(sk:List (List Int))(dc:List (List Int))(ov:PV)(s0:Int)(s1:Int)(out:Bool)(tot:Int)(i:Nat)(te:List (Value × PV))(tk:Nat):St:=⟨fr 54 [(4,(.ptr 7 0)),(5,(.ptr 8 0)),(6,(.p (aA 0))),(7,(.kb false)),(8,(.p (blP out))),(9,(.p (aA tot))),(21,(.p (.sl dc.length (dc.flatten.map aA)))),(22,(.p (aA (dc.length:Int)))),(23,(.p (aA (i:Int))))],[some (vB0 dl sk dc),some (.box 33 [(.p ov)]),some vB2,some (.mp te tk),some (.box 207 [(.mp 3)]),some (vB5 dl sk dc),some vB6,some (.box 31 [(.p (aA s0)),(.p (aA s1))]),some vB2]⟩
theorem bRs{dl:Int}{sk dc:List (List Int)}{ov:PV}{T:List (Int × Bool)}{s0 s1:Int}{out'0:Bool}{tot'1:Int}{i'2:Nat}{t'3:List (Int × Bool)}(hl0:aF Tryz.prog 7 eG (bQ dl sk dc ov s0 s1 (s1 == (-1:Int)) s1 0 (aH T) T.length) (.exit 0) (bQ dl sk dc ov s0 s1 out'0 tot'1 i'2 (aH t'3) t'3.length))(h1:out'0=true):FMM Tryz.prog 134 [(.rp (aK dl sk dc) 0),(.p (.agg [(aA s0),(aA s1)])),gS] (dE dl sk dc ov T) (.tup [(.p (aA 0)),(.p (blP true))]) (dE dl sk dc ov t'3):=by
 exact FMM.fin (k:=7) (g:=⟨[],[],[],[]⟩) rfl Tryz.func134 rfl (o:=[.x (.sl dc.length (dc.flatten.map aA)),.k 1 ⟨(rng [(0,4),(10,11),(24,26)]),[7,8],[],[]⟩ (.exit 0) (bQ dl sk dc ov s0 s1 out'0 tot'1 i'2 (aH t'3) t'3.length),bT]) (l:=[_,_,(aK dl sk dc)[2]? = some (.sl dc.length (dc.flatten.map aA))]) (by kernel_rfl) (gc h1 (gc hl0.code (gc rfl gn)))
theorem bRt{dl:Int}{sk dc:List (List Int)}{ov:PV}{T:List (Int × Bool)}{s0 s1:Int}{out'0:Bool}{tot'1:Int}{i'2:Nat}{t'3:List (Int × Bool)}{r0:Int}(hl0:aF Tryz.prog 7 eG (bQ dl sk dc ov s0 s1 (s1 == (-1:Int)) s1 0 (aH T) T.length) (.exit 0) (bQ dl sk dc ov s0 s1 out'0 tot'1 i'2 (aH t'3) t'3.length))(h1:out'0=false)(h2:([tot'1]:List Int).length≤1000)(er0:r0=(wZ (0:Int) ([tot'1]:List Int))):FMM Tryz.prog 134 [(.rp (aK dl sk dc) 0),(.p (.agg [(aA s0),(aA s1)])),gS] (dE dl sk dc ov T) (.tup [(.p (aA r0)),(.p (blP false))]) (dE dl sk dc ov t'3):=by
 subst er0
 exact FMM.fin (k:=7) (g:=⟨[],[],[],[]⟩) rfl Tryz.func134 rfl (o:=[.x (.sl dc.length (dc.flatten.map aA)),.k 1 ⟨(rng [(0,4),(10,11),(24,26)]),[7,8],[],[]⟩ (.exit 0) (bQ dl sk dc ov s0 s1 out'0 tot'1 i'2 (aH t'3) t'3.length),bF,.c (.p (aA (wZ (0:Int) ([tot'1]:List Int)))) []]) (l:=[FC Tryz.prog 184 [(.p (aA 0)),(.own 9)] [(9,(.row 3 1 [(aA tot'1)]))] 10 (.p (aA (wZ (0:Int) ([tot'1]:List Int)))) [],_,_,(aK dl sk dc)[2]? = some (.sl dc.length (dc.flatten.map aA))]) (by kernel_rfl) (gc (fv (aMz (0:Int) ([tot'1]:List Int) h2)) (gc h1 (gc hl0.code (gc rfl gn))))
theorem aXo{dl:Int}{sk dc:List (List Int)}{ov:PV}{s0 s1:Int}{out:Bool}{tot:Int}{i:Nat}{t:List (Int × Bool)}{y100 y102 y103 y104 y105:Int}{b106:Bool}{T107:List (Int × Bool)}{m108:Int}{T109:List (Int × Bool)}{tot':Int}{i':Nat}{t':List (Int × Bool)}(h0:(i:Int)<(dc.length:Int))(h1:dc[i]? = some [y100,(0:Int),y102,y103,y104,y105])(h2:uni 6 dc)(h3:wY dl sk dc ov [y100,(0:Int),y102,y103,y104,y105] s0 b106 t T107)(h4:b106=true)(h5:out=true)(h6:xA dl sk dc ov [y100,(0:Int),y102,y103,y104,y105] m108 T107 T109)(h7:inR (tot+m108))(h8:inR (((i+1):Nat):Int))(etot':tot'=(tot+m108))(ei':i'=(i+1))(et'e:aH t'=(aH T109))(et'k:t'.length=T109.length):aC Tryz.prog 7 eG (bQ dl sk dc ov s0 s1 out tot i (aH t) t.length) .normal (bQ dl sk dc ov s0 s1 true tot' i' (aH t') t'.length):=by
 subst etot' ei'
 have raw:aC Tryz.prog 7 eG (bQ dl sk dc ov s0 s1 out tot i (aH t) t.length) .normal (bQ dl sk dc ov s0 s1 true (tot+m108) (i+1) (aH T109) T109.length):=aC.fin (g:=⟨(rng [(0,4),(10,11),(24,26)]),[7,8],[],[(8,0)]⟩) (o:=[bT,.x (dcE y100 0 y102 y103 y104 y105),.c (.p (blP b106)) (vU dl sk dc ov T107),bT,bT,bT,bT,bT,.c (.agg [(.fn 212 [] []),(.fn 213 [] []),(.fn 214 [] []),(.fn 215 [] []),(.fn 212 [] [])]) [],.c (.p (aA m108)) (vU dl sk dc ov T109),.c (.p (aA (tot+m108))) []]) (l:=[_,_,FC Tryz.prog 160 [(.p (dcE y100 0 y102 y103 y104 y105)),(.ptr 2 0)] [(2,vB2),(4,(.box 207 [(.mp 3)])),(5,(vB5 dl sk dc)),(0,(vB0 dl sk dc)),(6,vB6),(1,(.box 33 [(.p ov)])),(3,(.mp (aH T107) T107.length))] 18 (.p (aA m108)) (vU dl sk dc ov T109),_,FC Tryz.prog 183 [] [] 10 (.agg [(.fn 212 [] []),(.fn 213 [] []),(.fn 214 [] []),(.fn 215 [] []),(.fn 212 [] [])]) [],_,_,_,_,_,FC Tryz.prog 136 [gS,(.p (dcE y100 0 y102 y103 y104 y105)),(.p (aA s0))] [(4,(.box 207 [(.mp 3)])),(5,(vB5 dl sk dc)),(0,(vB0 dl sk dc)),(2,vB2),(6,vB6),(1,(.box 33 [(.p ov)])),(3,(.mp (aH t) t.length))] 10 (.p (blP b106)) (vU dl sk dc ov T107),_,_,0≤(i:Int)∧(i:Int)<(dc.length:Int)∧(i*6)<(dc.flatten.map aA).length,_]) (by kernel_rfl) (gc h8 (gc (fk 26 (aFi tot m108 h7) rfl) (gc (FMM.fc (ids:=[0,1,2,3,4,5,6]) h6 (by kernel_rfl)) (gc bDi (gc (FV.fc mO (by kernel_rfl)) (gc h5 (gc h5 (gc h5 (gc h5 (gc h4 (gc (FMM.fc (ids:=[0,1,2,3,4,5,6]) h3 (by kernel_rfl)) (gc (aQ (i:=i) h2 h1) (gc (bD (i:=i) h2 h1) (gc (bB (k:=6) (i:=(i:Int)) (by decide) h2 (Int.natCast_nonneg _) h1) (gc (aL h0) gn)))))))))))))))
 exact raw.cast (by rw [et'e,et'k])
theorem aXp{dl:Int}{sk dc:List (List Int)}{ov:PV}{s0 s1:Int}{out:Bool}{tot:Int}{i:Nat}{t:List (Int × Bool)}{y100 y102 y103 y104 y105:Int}{b106:Bool}{T107:List (Int × Bool)}{m108:Int}{T109:List (Int × Bool)}{out':Bool}{tot':Int}{i':Nat}{t':List (Int × Bool)}(h0:(i:Int)<(dc.length:Int))(h1:dc[i]? = some [y100,(0:Int),y102,y103,y104,y105])(h2:uni 6 dc)(h3:wY dl sk dc ov [y100,(0:Int),y102,y103,y104,y105] s0 b106 t T107)(h4:b106=true)(h5:out=false)(h6:xA dl sk dc ov [y100,(0:Int),y102,y103,y104,y105] m108 T107 T109)(h7:inR (tot+m108))(h8:inR (((i+1):Nat):Int))(eout':out'=((0:Int) == (3:Int)))(etot':tot'=(tot+m108))(ei':i'=(i+1))(et'e:aH t'=(aH T109))(et'k:t'.length=T109.length):aC Tryz.prog 7 eG (bQ dl sk dc ov s0 s1 out tot i (aH t) t.length) .normal (bQ dl sk dc ov s0 s1 out' tot' i' (aH t') t'.length):=by
 subst eout' etot' ei'
 have raw:aC Tryz.prog 7 eG (bQ dl sk dc ov s0 s1 out tot i (aH t) t.length) .normal (bQ dl sk dc ov s0 s1 ((0:Int) == (3:Int)) (tot+m108) (i+1) (aH T109) T109.length):=aC.fin (g:=⟨(rng [(0,4),(10,11),(24,26)]),[7,8],[],[]⟩) (o:=[bT,.x (dcE y100 0 y102 y103 y104 y105),.c (.p (blP b106)) (vU dl sk dc ov T107),bT,bF,bF,bF,bF,.c (.agg [(.fn 212 [] []),(.fn 213 [] []),(.fn 214 [] []),(.fn 215 [] []),(.fn 212 [] [])]) [],.c (.p (aA m108)) (vU dl sk dc ov T109),.c (.p (aA (tot+m108))) []]) (l:=[_,_,FC Tryz.prog 160 [(.p (dcE y100 0 y102 y103 y104 y105)),(.ptr 2 0)] [(2,vB2),(4,(.box 207 [(.mp 3)])),(5,(vB5 dl sk dc)),(0,(vB0 dl sk dc)),(6,vB6),(1,(.box 33 [(.p ov)])),(3,(.mp (aH T107) T107.length))] 18 (.p (aA m108)) (vU dl sk dc ov T109),_,FC Tryz.prog 183 [] [] 10 (.agg [(.fn 212 [] []),(.fn 213 [] []),(.fn 214 [] []),(.fn 215 [] []),(.fn 212 [] [])]) [],_,_,_,_,_,FC Tryz.prog 136 [gS,(.p (dcE y100 0 y102 y103 y104 y105)),(.p (aA s0))] [(4,(.box 207 [(.mp 3)])),(5,(vB5 dl sk dc)),(0,(vB0 dl sk dc)),(2,vB2),(6,vB6),(1,(.box 33 [(.p ov)])),(3,(.mp (aH t) t.length))] 10 (.p (blP b106)) (vU dl sk dc ov T107),_,_,0≤(i:Int)∧(i:Int)<(dc.length:Int)∧(i*6)<(dc.flatten.map aA).length,_]) (by kernel_rfl) (gc h8 (gc (fk 26 (aFi tot m108 h7) rfl) (gc (FMM.fc (ids:=[0,1,2,3,4,5,6]) h6 (by kernel_rfl)) (gc bDi (gc (FV.fc mO (by kernel_rfl)) (gc h5 (gc h5 (gc h5 (gc h5 (gc h4 (gc (FMM.fc (ids:=[0,1,2,3,4,5,6]) h3 (by kernel_rfl)) (gc (aQ (i:=i) h2 h1) (gc (bD (i:=i) h2 h1) (gc (bB (k:=6) (i:=(i:Int)) (by decide) h2 (Int.natCast_nonneg _) h1) (gc (aL h0) gn)))))))))))))))
 exact raw.cast (by rw [et'e,et'k])
theorem aXq{dl:Int}{sk dc:List (List Int)}{ov:PV}{s0 s1:Int}{out:Bool}{tot:Int}{i:Nat}{t:List (Int × Bool)}{y100 y102 y103 y104 y105:Int}{b106:Bool}{T107:List (Int × Bool)}{m108:Int}{T109:List (Int × Bool)}{tot':Int}{i':Nat}{t':List (Int × Bool)}(h0:(i:Int)<(dc.length:Int))(h1:dc[i]? = some [y100,(1:Int),y102,y103,y104,y105])(h2:uni 6 dc)(h3:wY dl sk dc ov [y100,(1:Int),y102,y103,y104,y105] s0 b106 t T107)(h4:b106=true)(h5:out=true)(h6:xA dl sk dc ov [y100,(1:Int),y102,y103,y104,y105] m108 T107 T109)(h7:inR (tot-m108))(h8:inR (((i+1):Nat):Int))(etot':tot'=(tot-m108))(ei':i'=(i+1))(et'e:aH t'=(aH T109))(et'k:t'.length=T109.length):aC Tryz.prog 7 eG (bQ dl sk dc ov s0 s1 out tot i (aH t) t.length) .normal (bQ dl sk dc ov s0 s1 true tot' i' (aH t') t'.length):=by
 subst etot' ei'
 have raw:aC Tryz.prog 7 eG (bQ dl sk dc ov s0 s1 out tot i (aH t) t.length) .normal (bQ dl sk dc ov s0 s1 true (tot-m108) (i+1) (aH T109) T109.length):=aC.fin (g:=⟨(rng [(0,4),(10,11),(24,26)]),[7,8],[],[(8,0)]⟩) (o:=[bT,.x (dcE y100 1 y102 y103 y104 y105),.c (.p (blP b106)) (vU dl sk dc ov T107),bT,bT,bT,bT,bT,.c (.agg [(.fn 212 [] []),(.fn 213 [] []),(.fn 214 [] []),(.fn 215 [] []),(.fn 212 [] [])]) [],.c (.p (aA m108)) (vU dl sk dc ov T109),.c (.p (aA (tot-m108))) []]) (l:=[_,_,FC Tryz.prog 160 [(.p (dcE y100 1 y102 y103 y104 y105)),(.ptr 2 0)] [(2,vB2),(4,(.box 207 [(.mp 3)])),(5,(vB5 dl sk dc)),(0,(vB0 dl sk dc)),(6,vB6),(1,(.box 33 [(.p ov)])),(3,(.mp (aH T107) T107.length))] 18 (.p (aA m108)) (vU dl sk dc ov T109),_,FC Tryz.prog 183 [] [] 10 (.agg [(.fn 212 [] []),(.fn 213 [] []),(.fn 214 [] []),(.fn 215 [] []),(.fn 212 [] [])]) [],_,_,_,_,_,FC Tryz.prog 136 [gS,(.p (dcE y100 1 y102 y103 y104 y105)),(.p (aA s0))] [(4,(.box 207 [(.mp 3)])),(5,(vB5 dl sk dc)),(0,(vB0 dl sk dc)),(2,vB2),(6,vB6),(1,(.box 33 [(.p ov)])),(3,(.mp (aH t) t.length))] 10 (.p (blP b106)) (vU dl sk dc ov T107),_,_,0≤(i:Int)∧(i:Int)<(dc.length:Int)∧(i*6)<(dc.flatten.map aA).length,_]) (by kernel_rfl) (gc h8 (gc (fk 26 (bDn tot m108 h7) rfl) (gc (FMM.fc (ids:=[0,1,2,3,4,5,6]) h6 (by kernel_rfl)) (gc bDj (gc (FV.fc mO (by kernel_rfl)) (gc h5 (gc h5 (gc h5 (gc h5 (gc h4 (gc (FMM.fc (ids:=[0,1,2,3,4,5,6]) h3 (by kernel_rfl)) (gc (aQ (i:=i) h2 h1) (gc (bD (i:=i) h2 h1) (gc (bB (k:=6) (i:=(i:Int)) (by decide) h2 (Int.natCast_nonneg _) h1) (gc (aL h0) gn)))))))))))))))
 exact raw.cast (by rw [et'e,et'k])
theorem aXr{dl:Int}{sk dc:List (List Int)}{ov:PV}{s0 s1:Int}{out:Bool}{tot:Int}{i:Nat}{t:List (Int × Bool)}{y100 y102 y103 y104 y105:Int}{b106:Bool}{T107:List (Int × Bool)}{m108:Int}{T109:List (Int × Bool)}{out':Bool}{tot':Int}{i':Nat}{t':List (Int × Bool)}(h0:(i:Int)<(dc.length:Int))(h1:dc[i]? = some [y100,(1:Int),y102,y103,y104,y105])(h2:uni 6 dc)(h3:wY dl sk dc ov [y100,(1:Int),y102,y103,y104,y105] s0 b106 t T107)(h4:b106=true)(h5:out=false)(h6:xA dl sk dc ov [y100,(1:Int),y102,y103,y104,y105] m108 T107 T109)(h7:inR (tot-m108))(h8:inR (((i+1):Nat):Int))(eout':out'=((1:Int) == (3:Int)))(etot':tot'=(tot-m108))(ei':i'=(i+1))(et'e:aH t'=(aH T109))(et'k:t'.length=T109.length):aC Tryz.prog 7 eG (bQ dl sk dc ov s0 s1 out tot i (aH t) t.length) .normal (bQ dl sk dc ov s0 s1 out' tot' i' (aH t') t'.length):=by
 subst eout' etot' ei'
 have raw:aC Tryz.prog 7 eG (bQ dl sk dc ov s0 s1 out tot i (aH t) t.length) .normal (bQ dl sk dc ov s0 s1 ((1:Int) == (3:Int)) (tot-m108) (i+1) (aH T109) T109.length):=aC.fin (g:=⟨(rng [(0,4),(10,11),(24,26)]),[7,8],[],[]⟩) (o:=[bT,.x (dcE y100 1 y102 y103 y104 y105),.c (.p (blP b106)) (vU dl sk dc ov T107),bT,bF,bF,bF,bF,.c (.agg [(.fn 212 [] []),(.fn 213 [] []),(.fn 214 [] []),(.fn 215 [] []),(.fn 212 [] [])]) [],.c (.p (aA m108)) (vU dl sk dc ov T109),.c (.p (aA (tot-m108))) []]) (l:=[_,_,FC Tryz.prog 160 [(.p (dcE y100 1 y102 y103 y104 y105)),(.ptr 2 0)] [(2,vB2),(4,(.box 207 [(.mp 3)])),(5,(vB5 dl sk dc)),(0,(vB0 dl sk dc)),(6,vB6),(1,(.box 33 [(.p ov)])),(3,(.mp (aH T107) T107.length))] 18 (.p (aA m108)) (vU dl sk dc ov T109),_,FC Tryz.prog 183 [] [] 10 (.agg [(.fn 212 [] []),(.fn 213 [] []),(.fn 214 [] []),(.fn 215 [] []),(.fn 212 [] [])]) [],_,_,_,_,_,FC Tryz.prog 136 [gS,(.p (dcE y100 1 y102 y103 y104 y105)),(.p (aA s0))] [(4,(.box 207 [(.mp 3)])),(5,(vB5 dl sk dc)),(0,(vB0 dl sk dc)),(2,vB2),(6,vB6),(1,(.box 33 [(.p ov)])),(3,(.mp (aH t) t.length))] 10 (.p (blP b106)) (vU dl sk dc ov T107),_,_,0≤(i:Int)∧(i:Int)<(dc.length:Int)∧(i*6)<(dc.flatten.map aA).length,_]) (by kernel_rfl) (gc h8 (gc (fk 26 (bDn tot m108 h7) rfl) (gc (FMM.fc (ids:=[0,1,2,3,4,5,6]) h6 (by kernel_rfl)) (gc bDj (gc (FV.fc mO (by kernel_rfl)) (gc h5 (gc h5 (gc h5 (gc h5 (gc h4 (gc (FMM.fc (ids:=[0,1,2,3,4,5,6]) h3 (by kernel_rfl)) (gc (aQ (i:=i) h2 h1) (gc (bD (i:=i) h2 h1) (gc (bB (k:=6) (i:=(i:Int)) (by decide) h2 (Int.natCast_nonneg _) h1) (gc (aL h0) gn)))))))))))))))
 exact raw.cast (by rw [et'e,et'k])
theorem aXs{dl:Int}{sk dc:List (List Int)}{ov:PV}{s0 s1:Int}{out:Bool}{tot:Int}{i:Nat}{t:List (Int × Bool)}{y100 y102 y103 y104 y105:Int}{b106:Bool}{T107:List (Int × Bool)}{m108:Int}{T109:List (Int × Bool)}{tot':Int}{i':Nat}{t':List (Int × Bool)}(h0:(i:Int)<(dc.length:Int))(h1:dc[i]? = some [y100,(2:Int),y102,y103,y104,y105])(h2:uni 6 dc)(h3:wY dl sk dc ov [y100,(2:Int),y102,y103,y104,y105] s0 b106 t T107)(h4:b106=true)(h5:out=true)(h6:xA dl sk dc ov [y100,(2:Int),y102,y103,y104,y105] m108 T107 T109)(h7:inR (1200*m108)∧inR (tot+1200*m108))(h8:inR (((i+1):Nat):Int))(etot':tot'=(tot+1200*m108))(ei':i'=(i+1))(et'e:aH t'=(aH T109))(et'k:t'.length=T109.length):aC Tryz.prog 7 eG (bQ dl sk dc ov s0 s1 out tot i (aH t) t.length) .normal (bQ dl sk dc ov s0 s1 true tot' i' (aH t') t'.length):=by
 subst etot' ei'
 have raw:aC Tryz.prog 7 eG (bQ dl sk dc ov s0 s1 out tot i (aH t) t.length) .normal (bQ dl sk dc ov s0 s1 true (tot+1200*m108) (i+1) (aH T109) T109.length):=aC.fin (g:=⟨(rng [(0,4),(10,11),(24,26)]),[7,8],[],[(8,0)]⟩) (o:=[bT,.x (dcE y100 2 y102 y103 y104 y105),.c (.p (blP b106)) (vU dl sk dc ov T107),bT,bT,bT,bT,bT,.c (.agg [(.fn 212 [] []),(.fn 213 [] []),(.fn 214 [] []),(.fn 215 [] []),(.fn 212 [] [])]) [],.c (.p (aA m108)) (vU dl sk dc ov T109),.c (.p (aA (tot+1200*m108))) []]) (l:=[_,_,FC Tryz.prog 160 [(.p (dcE y100 2 y102 y103 y104 y105)),(.ptr 2 0)] [(2,vB2),(4,(.box 207 [(.mp 3)])),(5,(vB5 dl sk dc)),(0,(vB0 dl sk dc)),(6,vB6),(1,(.box 33 [(.p ov)])),(3,(.mp (aH T107) T107.length))] 18 (.p (aA m108)) (vU dl sk dc ov T109),_,FC Tryz.prog 183 [] [] 10 (.agg [(.fn 212 [] []),(.fn 213 [] []),(.fn 214 [] []),(.fn 215 [] []),(.fn 212 [] [])]) [],_,_,_,_,_,FC Tryz.prog 136 [gS,(.p (dcE y100 2 y102 y103 y104 y105)),(.p (aA s0))] [(4,(.box 207 [(.mp 3)])),(5,(vB5 dl sk dc)),(0,(vB0 dl sk dc)),(2,vB2),(6,vB6),(1,(.box 33 [(.p ov)])),(3,(.mp (aH t) t.length))] 10 (.p (blP b106)) (vU dl sk dc ov T107),_,_,0≤(i:Int)∧(i:Int)<(dc.length:Int)∧(i*6)<(dc.flatten.map aA).length,_]) (by kernel_rfl) (gc h8 (gc (fk 26 (bDo tot m108 h7) rfl) (gc (FMM.fc (ids:=[0,1,2,3,4,5,6]) h6 (by kernel_rfl)) (gc bDk (gc (FV.fc mO (by kernel_rfl)) (gc h5 (gc h5 (gc h5 (gc h5 (gc h4 (gc (FMM.fc (ids:=[0,1,2,3,4,5,6]) h3 (by kernel_rfl)) (gc (aQ (i:=i) h2 h1) (gc (bD (i:=i) h2 h1) (gc (bB (k:=6) (i:=(i:Int)) (by decide) h2 (Int.natCast_nonneg _) h1) (gc (aL h0) gn)))))))))))))))
 exact raw.cast (by rw [et'e,et'k])
theorem aXt{dl:Int}{sk dc:List (List Int)}{ov:PV}{s0 s1:Int}{out:Bool}{tot:Int}{i:Nat}{t:List (Int × Bool)}{y100 y102 y103 y104 y105:Int}{b106:Bool}{T107:List (Int × Bool)}{m108:Int}{T109:List (Int × Bool)}{out':Bool}{tot':Int}{i':Nat}{t':List (Int × Bool)}(h0:(i:Int)<(dc.length:Int))(h1:dc[i]? = some [y100,(2:Int),y102,y103,y104,y105])(h2:uni 6 dc)(h3:wY dl sk dc ov [y100,(2:Int),y102,y103,y104,y105] s0 b106 t T107)(h4:b106=true)(h5:out=false)(h6:xA dl sk dc ov [y100,(2:Int),y102,y103,y104,y105] m108 T107 T109)(h7:inR (1200*m108)∧inR (tot+1200*m108))(h8:inR (((i+1):Nat):Int))(eout':out'=((2:Int) == (3:Int)))(etot':tot'=(tot+1200*m108))(ei':i'=(i+1))(et'e:aH t'=(aH T109))(et'k:t'.length=T109.length):aC Tryz.prog 7 eG (bQ dl sk dc ov s0 s1 out tot i (aH t) t.length) .normal (bQ dl sk dc ov s0 s1 out' tot' i' (aH t') t'.length):=by
 subst eout' etot' ei'
 have raw:aC Tryz.prog 7 eG (bQ dl sk dc ov s0 s1 out tot i (aH t) t.length) .normal (bQ dl sk dc ov s0 s1 ((2:Int) == (3:Int)) (tot+1200*m108) (i+1) (aH T109) T109.length):=aC.fin (g:=⟨(rng [(0,4),(10,11),(24,26)]),[7,8],[],[]⟩) (o:=[bT,.x (dcE y100 2 y102 y103 y104 y105),.c (.p (blP b106)) (vU dl sk dc ov T107),bT,bF,bF,bF,bF,.c (.agg [(.fn 212 [] []),(.fn 213 [] []),(.fn 214 [] []),(.fn 215 [] []),(.fn 212 [] [])]) [],.c (.p (aA m108)) (vU dl sk dc ov T109),.c (.p (aA (tot+1200*m108))) []]) (l:=[_,_,FC Tryz.prog 160 [(.p (dcE y100 2 y102 y103 y104 y105)),(.ptr 2 0)] [(2,vB2),(4,(.box 207 [(.mp 3)])),(5,(vB5 dl sk dc)),(0,(vB0 dl sk dc)),(6,vB6),(1,(.box 33 [(.p ov)])),(3,(.mp (aH T107) T107.length))] 18 (.p (aA m108)) (vU dl sk dc ov T109),_,FC Tryz.prog 183 [] [] 10 (.agg [(.fn 212 [] []),(.fn 213 [] []),(.fn 214 [] []),(.fn 215 [] []),(.fn 212 [] [])]) [],_,_,_,_,_,FC Tryz.prog 136 [gS,(.p (dcE y100 2 y102 y103 y104 y105)),(.p (aA s0))] [(4,(.box 207 [(.mp 3)])),(5,(vB5 dl sk dc)),(0,(vB0 dl sk dc)),(2,vB2),(6,vB6),(1,(.box 33 [(.p ov)])),(3,(.mp (aH t) t.length))] 10 (.p (blP b106)) (vU dl sk dc ov T107),_,_,0≤(i:Int)∧(i:Int)<(dc.length:Int)∧(i*6)<(dc.flatten.map aA).length,_]) (by kernel_rfl) (gc h8 (gc (fk 26 (bDo tot m108 h7) rfl) (gc (FMM.fc (ids:=[0,1,2,3,4,5,6]) h6 (by kernel_rfl)) (gc bDk (gc (FV.fc mO (by kernel_rfl)) (gc h5 (gc h5 (gc h5 (gc h5 (gc h4 (gc (FMM.fc (ids:=[0,1,2,3,4,5,6]) h3 (by kernel_rfl)) (gc (aQ (i:=i) h2 h1) (gc (bD (i:=i) h2 h1) (gc (bB (k:=6) (i:=(i:Int)) (by decide) h2 (Int.natCast_nonneg _) h1) (gc (aL h0) gn)))))))))))))))
 exact raw.cast (by rw [et'e,et'k])
theorem aXu{dl:Int}{sk dc:List (List Int)}{ov:PV}{s0 s1:Int}{out:Bool}{tot:Int}{i:Nat}{t:List (Int × Bool)}{y100 y102 y103 y104 y105:Int}{b106:Bool}{T107:List (Int × Bool)}{m108:Int}{T109:List (Int × Bool)}{i':Nat}{t':List (Int × Bool)}(h0:(i:Int)<(dc.length:Int))(h1:dc[i]? = some [y100,(3:Int),y102,y103,y104,y105])(h2:uni 6 dc)(h3:wY dl sk dc ov [y100,(3:Int),y102,y103,y104,y105] s0 b106 t T107)(h4:b106=true)(h5:out=true)(h6:xA dl sk dc ov [y100,(3:Int),y102,y103,y104,y105] m108 T107 T109)(h7:inR (((i+1):Nat):Int))(ei':i'=(i+1))(et'e:aH t'=(aH T109))(et'k:t'.length=T109.length):aC Tryz.prog 7 eG (bQ dl sk dc ov s0 s1 out tot i (aH t) t.length) .normal (bQ dl sk dc ov s0 s1 true tot i' (aH t') t'.length):=by
 subst ei'
 have raw:aC Tryz.prog 7 eG (bQ dl sk dc ov s0 s1 out tot i (aH t) t.length) .normal (bQ dl sk dc ov s0 s1 true tot (i+1) (aH T109) T109.length):=aC.fin (g:=⟨(rng [(0,4),(10,11),(24,26)]),[7,8],[],[(8,0)]⟩) (o:=[bT,.x (dcE y100 3 y102 y103 y104 y105),.c (.p (blP b106)) (vU dl sk dc ov T107),bT,bT,bT,bT,bT,.c (.agg [(.fn 212 [] []),(.fn 213 [] []),(.fn 214 [] []),(.fn 215 [] []),(.fn 212 [] [])]) [],.c (.p (aA m108)) (vU dl sk dc ov T109),.c (.p (aA tot)) []]) (l:=[_,_,FC Tryz.prog 160 [(.p (dcE y100 3 y102 y103 y104 y105)),(.ptr 2 0)] [(2,vB2),(4,(.box 207 [(.mp 3)])),(5,(vB5 dl sk dc)),(0,(vB0 dl sk dc)),(6,vB6),(1,(.box 33 [(.p ov)])),(3,(.mp (aH T107) T107.length))] 18 (.p (aA m108)) (vU dl sk dc ov T109),_,FC Tryz.prog 183 [] [] 10 (.agg [(.fn 212 [] []),(.fn 213 [] []),(.fn 214 [] []),(.fn 215 [] []),(.fn 212 [] [])]) [],_,_,_,_,_,FC Tryz.prog 136 [gS,(.p (dcE y100 3 y102 y103 y104 y105)),(.p (aA s0))] [(4,(.box 207 [(.mp 3)])),(5,(vB5 dl sk dc)),(0,(vB0 dl sk dc)),(2,vB2),(6,vB6),(1,(.box 33 [(.p ov)])),(3,(.mp (aH t) t.length))] 10 (.p (blP b106)) (vU dl sk dc ov T107),_,_,0≤(i:Int)∧(i:Int)<(dc.length:Int)∧(i*6)<(dc.flatten.map aA).length,_]) (by kernel_rfl) (gc h7 (gc (fk 26 (bDp tot m108) rfl) (gc (FMM.fc (ids:=[0,1,2,3,4,5,6]) h6 (by kernel_rfl)) (gc bDl (gc (FV.fc mO (by kernel_rfl)) (gc h5 (gc h5 (gc h5 (gc h5 (gc h4 (gc (FMM.fc (ids:=[0,1,2,3,4,5,6]) h3 (by kernel_rfl)) (gc (aQ (i:=i) h2 h1) (gc (bD (i:=i) h2 h1) (gc (bB (k:=6) (i:=(i:Int)) (by decide) h2 (Int.natCast_nonneg _) h1) (gc (aL h0) gn)))))))))))))))
 exact raw.cast (by rw [et'e,et'k])
theorem aXv{dl:Int}{sk dc:List (List Int)}{ov:PV}{s0 s1:Int}{out:Bool}{tot:Int}{i:Nat}{t:List (Int × Bool)}{y100 y102 y103 y104 y105:Int}{b106:Bool}{T107:List (Int × Bool)}{m108:Int}{T109:List (Int × Bool)}{out':Bool}{i':Nat}{t':List (Int × Bool)}(h0:(i:Int)<(dc.length:Int))(h1:dc[i]? = some [y100,(3:Int),y102,y103,y104,y105])(h2:uni 6 dc)(h3:wY dl sk dc ov [y100,(3:Int),y102,y103,y104,y105] s0 b106 t T107)(h4:b106=true)(h5:out=false)(h6:xA dl sk dc ov [y100,(3:Int),y102,y103,y104,y105] m108 T107 T109)(h7:inR (((i+1):Nat):Int))(eout':out'=((3:Int) == (3:Int)))(ei':i'=(i+1))(et'e:aH t'=(aH T109))(et'k:t'.length=T109.length):aC Tryz.prog 7 eG (bQ dl sk dc ov s0 s1 out tot i (aH t) t.length) .normal (bQ dl sk dc ov s0 s1 out' tot i' (aH t') t'.length):=by
 subst eout' ei'
 have raw:aC Tryz.prog 7 eG (bQ dl sk dc ov s0 s1 out tot i (aH t) t.length) .normal (bQ dl sk dc ov s0 s1 ((3:Int) == (3:Int)) tot (i+1) (aH T109) T109.length):=aC.fin (g:=⟨(rng [(0,4),(10,11),(24,26)]),[7,8],[],[]⟩) (o:=[bT,.x (dcE y100 3 y102 y103 y104 y105),.c (.p (blP b106)) (vU dl sk dc ov T107),bT,bF,bF,bF,bF,.c (.agg [(.fn 212 [] []),(.fn 213 [] []),(.fn 214 [] []),(.fn 215 [] []),(.fn 212 [] [])]) [],.c (.p (aA m108)) (vU dl sk dc ov T109),.c (.p (aA tot)) []]) (l:=[_,_,FC Tryz.prog 160 [(.p (dcE y100 3 y102 y103 y104 y105)),(.ptr 2 0)] [(2,vB2),(4,(.box 207 [(.mp 3)])),(5,(vB5 dl sk dc)),(0,(vB0 dl sk dc)),(6,vB6),(1,(.box 33 [(.p ov)])),(3,(.mp (aH T107) T107.length))] 18 (.p (aA m108)) (vU dl sk dc ov T109),_,FC Tryz.prog 183 [] [] 10 (.agg [(.fn 212 [] []),(.fn 213 [] []),(.fn 214 [] []),(.fn 215 [] []),(.fn 212 [] [])]) [],_,_,_,_,_,FC Tryz.prog 136 [gS,(.p (dcE y100 3 y102 y103 y104 y105)),(.p (aA s0))] [(4,(.box 207 [(.mp 3)])),(5,(vB5 dl sk dc)),(0,(vB0 dl sk dc)),(2,vB2),(6,vB6),(1,(.box 33 [(.p ov)])),(3,(.mp (aH t) t.length))] 10 (.p (blP b106)) (vU dl sk dc ov T107),_,_,0≤(i:Int)∧(i:Int)<(dc.length:Int)∧(i*6)<(dc.flatten.map aA).length,_]) (by kernel_rfl) (gc h7 (gc (fk 26 (bDp tot m108) rfl) (gc (FMM.fc (ids:=[0,1,2,3,4,5,6]) h6 (by kernel_rfl)) (gc bDl (gc (FV.fc mO (by kernel_rfl)) (gc h5 (gc h5 (gc h5 (gc h5 (gc h4 (gc (FMM.fc (ids:=[0,1,2,3,4,5,6]) h3 (by kernel_rfl)) (gc (aQ (i:=i) h2 h1) (gc (bD (i:=i) h2 h1) (gc (bB (k:=6) (i:=(i:Int)) (by decide) h2 (Int.natCast_nonneg _) h1) (gc (aL h0) gn)))))))))))))))
 exact raw.cast (by rw [et'e,et'k])
theorem aXw{dl:Int}{sk dc:List (List Int)}{ov:PV}{s0 s1:Int}{out:Bool}{tot:Int}{i:Nat}{t:List (Int × Bool)}{y100 y102 y103 y104 y105:Int}{b106:Bool}{T107:List (Int × Bool)}{m108:Int}{T109:List (Int × Bool)}{tot':Int}{i':Nat}{t':List (Int × Bool)}(h0:(i:Int)<(dc.length:Int))(h1:dc[i]? = some [y100,(4:Int),y102,y103,y104,y105])(h2:uni 6 dc)(h3:wY dl sk dc ov [y100,(4:Int),y102,y103,y104,y105] s0 b106 t T107)(h4:b106=true)(h5:out=true)(h6:xA dl sk dc ov [y100,(4:Int),y102,y103,y104,y105] m108 T107 T109)(h7:inR (tot+m108))(h8:inR (((i+1):Nat):Int))(etot':tot'=(tot+m108))(ei':i'=(i+1))(et'e:aH t'=(aH T109))(et'k:t'.length=T109.length):aC Tryz.prog 7 eG (bQ dl sk dc ov s0 s1 out tot i (aH t) t.length) .normal (bQ dl sk dc ov s0 s1 true tot' i' (aH t') t'.length):=by
 subst etot' ei'
 have raw:aC Tryz.prog 7 eG (bQ dl sk dc ov s0 s1 out tot i (aH t) t.length) .normal (bQ dl sk dc ov s0 s1 true (tot+m108) (i+1) (aH T109) T109.length):=aC.fin (g:=⟨(rng [(0,4),(10,11),(24,26)]),[7,8],[],[(8,0)]⟩) (o:=[bT,.x (dcE y100 4 y102 y103 y104 y105),.c (.p (blP b106)) (vU dl sk dc ov T107),bT,bT,bT,bT,bT,.c (.agg [(.fn 212 [] []),(.fn 213 [] []),(.fn 214 [] []),(.fn 215 [] []),(.fn 212 [] [])]) [],.c (.p (aA m108)) (vU dl sk dc ov T109),.c (.p (aA (tot+m108))) []]) (l:=[_,_,FC Tryz.prog 160 [(.p (dcE y100 4 y102 y103 y104 y105)),(.ptr 2 0)] [(2,vB2),(4,(.box 207 [(.mp 3)])),(5,(vB5 dl sk dc)),(0,(vB0 dl sk dc)),(6,vB6),(1,(.box 33 [(.p ov)])),(3,(.mp (aH T107) T107.length))] 18 (.p (aA m108)) (vU dl sk dc ov T109),_,FC Tryz.prog 183 [] [] 10 (.agg [(.fn 212 [] []),(.fn 213 [] []),(.fn 214 [] []),(.fn 215 [] []),(.fn 212 [] [])]) [],_,_,_,_,_,FC Tryz.prog 136 [gS,(.p (dcE y100 4 y102 y103 y104 y105)),(.p (aA s0))] [(4,(.box 207 [(.mp 3)])),(5,(vB5 dl sk dc)),(0,(vB0 dl sk dc)),(2,vB2),(6,vB6),(1,(.box 33 [(.p ov)])),(3,(.mp (aH t) t.length))] 10 (.p (blP b106)) (vU dl sk dc ov T107),_,_,0≤(i:Int)∧(i:Int)<(dc.length:Int)∧(i*6)<(dc.flatten.map aA).length,_]) (by kernel_rfl) (gc h8 (gc (fk 26 (aFi tot m108 h7) rfl) (gc (FMM.fc (ids:=[0,1,2,3,4,5,6]) h6 (by kernel_rfl)) (gc bDm (gc (FV.fc mO (by kernel_rfl)) (gc h5 (gc h5 (gc h5 (gc h5 (gc h4 (gc (FMM.fc (ids:=[0,1,2,3,4,5,6]) h3 (by kernel_rfl)) (gc (aQ (i:=i) h2 h1) (gc (bD (i:=i) h2 h1) (gc (bB (k:=6) (i:=(i:Int)) (by decide) h2 (Int.natCast_nonneg _) h1) (gc (aL h0) gn)))))))))))))))
 exact raw.cast (by rw [et'e,et'k])
theorem aXx{dl:Int}{sk dc:List (List Int)}{ov:PV}{s0 s1:Int}{out:Bool}{tot:Int}{i:Nat}{t:List (Int × Bool)}{y100 y102 y103 y104 y105:Int}{b106:Bool}{T107:List (Int × Bool)}{m108:Int}{T109:List (Int × Bool)}{out':Bool}{tot':Int}{i':Nat}{t':List (Int × Bool)}(h0:(i:Int)<(dc.length:Int))(h1:dc[i]? = some [y100,(4:Int),y102,y103,y104,y105])(h2:uni 6 dc)(h3:wY dl sk dc ov [y100,(4:Int),y102,y103,y104,y105] s0 b106 t T107)(h4:b106=true)(h5:out=false)(h6:xA dl sk dc ov [y100,(4:Int),y102,y103,y104,y105] m108 T107 T109)(h7:inR (tot+m108))(h8:inR (((i+1):Nat):Int))(eout':out'=((4:Int) == (3:Int)))(etot':tot'=(tot+m108))(ei':i'=(i+1))(et'e:aH t'=(aH T109))(et'k:t'.length=T109.length):aC Tryz.prog 7 eG (bQ dl sk dc ov s0 s1 out tot i (aH t) t.length) .normal (bQ dl sk dc ov s0 s1 out' tot' i' (aH t') t'.length):=by
 subst eout' etot' ei'
 have raw:aC Tryz.prog 7 eG (bQ dl sk dc ov s0 s1 out tot i (aH t) t.length) .normal (bQ dl sk dc ov s0 s1 ((4:Int) == (3:Int)) (tot+m108) (i+1) (aH T109) T109.length):=aC.fin (g:=⟨(rng [(0,4),(10,11),(24,26)]),[7,8],[],[]⟩) (o:=[bT,.x (dcE y100 4 y102 y103 y104 y105),.c (.p (blP b106)) (vU dl sk dc ov T107),bT,bF,bF,bF,bF,.c (.agg [(.fn 212 [] []),(.fn 213 [] []),(.fn 214 [] []),(.fn 215 [] []),(.fn 212 [] [])]) [],.c (.p (aA m108)) (vU dl sk dc ov T109),.c (.p (aA (tot+m108))) []]) (l:=[_,_,FC Tryz.prog 160 [(.p (dcE y100 4 y102 y103 y104 y105)),(.ptr 2 0)] [(2,vB2),(4,(.box 207 [(.mp 3)])),(5,(vB5 dl sk dc)),(0,(vB0 dl sk dc)),(6,vB6),(1,(.box 33 [(.p ov)])),(3,(.mp (aH T107) T107.length))] 18 (.p (aA m108)) (vU dl sk dc ov T109),_,FC Tryz.prog 183 [] [] 10 (.agg [(.fn 212 [] []),(.fn 213 [] []),(.fn 214 [] []),(.fn 215 [] []),(.fn 212 [] [])]) [],_,_,_,_,_,FC Tryz.prog 136 [gS,(.p (dcE y100 4 y102 y103 y104 y105)),(.p (aA s0))] [(4,(.box 207 [(.mp 3)])),(5,(vB5 dl sk dc)),(0,(vB0 dl sk dc)),(2,vB2),(6,vB6),(1,(.box 33 [(.p ov)])),(3,(.mp (aH t) t.length))] 10 (.p (blP b106)) (vU dl sk dc ov T107),_,_,0≤(i:Int)∧(i:Int)<(dc.length:Int)∧(i*6)<(dc.flatten.map aA).length,_]) (by kernel_rfl) (gc h8 (gc (fk 26 (aFi tot m108 h7) rfl) (gc (FMM.fc (ids:=[0,1,2,3,4,5,6]) h6 (by kernel_rfl)) (gc bDm (gc (FV.fc mO (by kernel_rfl)) (gc h5 (gc h5 (gc h5 (gc h5 (gc h4 (gc (FMM.fc (ids:=[0,1,2,3,4,5,6]) h3 (by kernel_rfl)) (gc (aQ (i:=i) h2 h1) (gc (bD (i:=i) h2 h1) (gc (bB (k:=6) (i:=(i:Int)) (by decide) h2 (Int.natCast_nonneg _) h1) (gc (aL h0) gn)))))))))))))))
 exact raw.cast (by rw [et'e,et'k])
theorem aNa{dl:Int}{sk dc:List (List Int)}{ov:PV}{s0 s1:Int}{out:Bool}{tot:Int}{i:Nat}{t:List (Int × Bool)}{y100 y101 y102 y103 y104 y105:Int}{b106:Bool}{T107:List (Int × Bool)}{i':Nat}{t':List (Int × Bool)}(h0:(i:Int)<(dc.length:Int))(h1:dc[i]? = some [y100,y101,y102,y103,y104,y105])(h2:uni 6 dc)(h3:wY dl sk dc ov [y100,y101,y102,y103,y104,y105] s0 b106 t T107)(h4:b106=false)(h5:inR (((i+1):Nat):Int))(ei':i'=(i+1))(et'e:aH t'=(aH T107))(et'k:t'.length=T107.length):aC Tryz.prog 7 eG (bQ dl sk dc ov s0 s1 out tot i (aH t) t.length) .normal (bQ dl sk dc ov s0 s1 out tot i' (aH t') t'.length):=by
 subst ei'
 have raw:aC Tryz.prog 7 eG (bQ dl sk dc ov s0 s1 out tot i (aH t) t.length) .normal (bQ dl sk dc ov s0 s1 out tot (i+1) (aH T107) T107.length):=aC.fin (g:=⟨(rng [(0,4),(10,11),(24,26)]),[7,8],[],[]⟩) (o:=[bT,.x (dcE y100 y101 y102 y103 y104 y105),.c (.p (blP b106)) (vU dl sk dc ov T107),bF]) (l:=[_,_,FC Tryz.prog 136 [gS,(.p (dcE y100 y101 y102 y103 y104 y105)),(.p (aA s0))] [(4,(.box 207 [(.mp 3)])),(5,(vB5 dl sk dc)),(0,(vB0 dl sk dc)),(2,vB2),(6,vB6),(1,(.box 33 [(.p ov)])),(3,(.mp (aH t) t.length))] 10 (.p (blP b106)) (vU dl sk dc ov T107),_,_,0≤(i:Int)∧(i:Int)<(dc.length:Int)∧(i*6)<(dc.flatten.map aA).length,_]) (by kernel_rfl) (gc h5 (gc h4 (gc (FMM.fc (ids:=[0,1,2,3,4,5,6]) h3 (by kernel_rfl)) (gc (aQ (i:=i) h2 h1) (gc (bD (i:=i) h2 h1) (gc (bB (k:=6) (i:=(i:Int)) (by decide) h2 (Int.natCast_nonneg _) h1) (gc (aL h0) gn)))))))
 exact raw.cast (by rw [et'e,et'k])
theorem aNb{dl:Int}{sk dc:List (List Int)}{ov:PV}{s0 s1:Int}{out:Bool}{tot:Int}{i:Nat}{t:List (Int × Bool)}(h0:(dc.length:Int)≤(i:Int)):aC Tryz.prog 7 eG (bQ dl sk dc ov s0 s1 out tot i (aH t) t.length) (.exit 0) (bQ dl sk dc ov s0 s1 out tot i (aH t) t.length):=by
 exact aC.fin (g:=⟨(rng [(0,4),(10,11),(24,26)]),[7,8],[],[]⟩) (o:=[bF]) (l:=[_]) (by kernel_rfl) (gc (aE h0) gn)
def eR(dl:Int)(sk:List (List Int))(dc:List (List Int))(on:Nat)(oc:List PV)(i:Nat)(te:List (Value × PV))(tk:Nat):St:=⟨fr 48 [(2,(.p bR)),(3,(.ptr 7 0)),(4,(.own 8)),(15,(.p (.sl dc.length (dc.flatten.map aA)))),(16,(.p (aA (dc.length:Int)))),(17,(.p (aA (i:Int))))],[some (vB0 dl sk dc),some (.box 33 [(.p bR)]),some vB2,some (.mp te tk),some (.box 207 [(.mp 3)]),some (vB5 dl sk dc),some vB6,some vB2,some (.row 3 on oc)]⟩
theorem bRu{dl:Int}{sk dc:List (List Int)}{o'0:List Int}{i'1:Nat}{t'2:List (Int × Bool)}(hl0:aF Tryz.prog 0 mN (eR dl sk dc 0 [] 0 (aH ([]:List (Int × Bool))) 0) (.exit 0) (eR dl sk dc o'0.length (o'0.map aA) i'1 (aH t'2) t'2.length)){base:Nat}:FV Tryz.prog 83 [(.rp (aK dl sk dc) 0)] base (.own base) [(base,(.row 3 o'0.length (o'0.map aA)))]:=by
 exact FV.fin Tryz.func83 rfl (o:=[.c gS (vU dl sk dc bR ([]:List (Int × Bool))),.x (.sl dc.length (dc.flatten.map aA)),.k 1 ⟨(rng [(0,2),(5,10),(18,29)]),[0,1,2,3,4,5,6,7,8],[],[(4,3)]⟩ (.exit 0) (eR dl sk dc o'0.length (o'0.map aA) i'1 (aH t'2) t'2.length)]) (l:=[_,(aK dl sk dc)[2]? = some (.sl dc.length (dc.flatten.map aA)),FC Tryz.prog 87 [(.rp (aK dl sk dc) 0),(.p bR)] [] 0 gS (vU dl sk dc bR ([]:List (Int × Bool)))]) (by kernel_rfl) (gc hl0.code (gc rfl (gc (FMM.fcN (k:=7) rfl (ids:=[]) (aFp (dl:=dl) (sk:=sk) (dc:=dc)) (by kernel_rfl)) gn)))
theorem aXy{dl:Int}{sk dc:List (List Int)}{o:List Int}{i:Nat}{t:List (Int × Bool)}{y100 y101 y102 y103 y104 y105 z106 z107 z108 z109 z110 z111:Int}{b112:Bool}{T113:List (Int × Bool)}{b114:Bool}{T115:List (Int × Bool)}{o':List Int}{i':Nat}{t':List (Int × Bool)}(h0:(i:Int)<(dc.length:Int))(h1:dc[i]? = some [y100,y101,y102,y103,y104,y105])(h2:uni 6 dc)(h3:aIy dl sk dc bR [y100,y101,y102,y103,y104,y105] [z106,z107,z108,z109,z110,z111] b112 t T113)(h4:(gC y101)=true)(h5:pT dl sk dc bR [y100,y101,y102,y103,y104,y105] b114 T113 T115)(h6:b114=true)(h7:b112=false)(h8:[(aA y100)].length=1*1∧o.length+1≤1000000)(h9:inR (((i+1):Nat):Int))(eo'n:o'.length=(o.length+1))(eo'c:o'.map aA=((o.map aA)++[(aA y100)]))(ei':i'=(i+1))(et'e:aH t'=(aH T115))(et'k:t'.length=T115.length):aC Tryz.prog 0 mN (eR dl sk dc o.length (o.map aA) i (aH t) t.length) .normal (eR dl sk dc o'.length (o'.map aA) i' (aH t') t'.length):=by
 subst ei'
 have raw:aC Tryz.prog 0 mN (eR dl sk dc o.length (o.map aA) i (aH t) t.length) .normal (eR dl sk dc (o.length+1) ((o.map aA)++[(aA y100)]) (i+1) (aH T115) T115.length):=aC.fin (g:=⟨(rng [(0,2),(5,10),(18,29)]),[0,1,2,3,4,5,6,7,12],[],[]⟩) (o:=[bT,.x (dcE y100 y101 y102 y103 y104 y105),.c (.tup [(.p (dcE z106 z107 z108 z109 z110 z111)),(.p (blP b112))]) (vU dl sk dc bR T113),.c (.p (blP (gC y101))) [],bT,bT,bT,bT,.c (.p (blP b114)) (vU dl sk dc bR T115),bT,bT,bT,bT,bT]) (l:=[_,_,_,_,_,_,_,FC Tryz.prog 154 [(.p (dcE y100 y101 y102 y103 y104 y105)),(.ptr 4 0),(.ptr 5 0),(.ptr 0 0),(.ptr 2 0)] [(4,(.box 207 [(.mp 3)])),(5,(vB5 dl sk dc)),(0,(vB0 dl sk dc)),(2,vB2),(3,(.mp (aH T113) T113.length)),(6,vB6),(1,(.box 33 [(.p bR)]))] 11 (.p (blP b114)) (vU dl sk dc bR T115),_,_,_,_,_,FC Tryz.prog 156 [(.p (dcE y100 y101 y102 y103 y104 y105)),(.ptr 6 0)] [(6,vB6),(0,(vB0 dl sk dc)),(2,vB2),(4,(.box 207 [(.mp 3)])),(5,(vB5 dl sk dc)),(1,(.box 33 [(.p bR)])),(3,(.mp (aH t) t.length))] 10 (.tup [(.p (dcE z106 z107 z108 z109 z110 z111)),(.p (blP b112))]) (vU dl sk dc bR T113),_,_,0≤(i:Int)∧(i:Int)<(dc.length:Int)∧(i*6)<(dc.flatten.map aA).length,_]) (by kernel_rfl) (gc h9 (gc h8 (gc (bI h7) (gc h6 (gc h6 (gc h6 (gc h4 (gc (FMM.fc (ids:=[0,1,2,3,4,5,6]) h5 (by kernel_rfl)) (gc h4 (gc h4 (gc h4 (gc h4 (gc (fk 11 (vH y101) rfl) (gc (FMM.fc (ids:=[0,1,2,3,4,5,6]) h3 (by kernel_rfl)) (gc (aQ (i:=i) h2 h1) (gc (bD (i:=i) h2 h1) (gc (bB (k:=6) (i:=(i:Int)) (by decide) h2 (Int.natCast_nonneg _) h1) (gc (aL h0) gn))))))))))))))))))
 exact raw.cast (by rw [eo'n,eo'c,et'e,et'k])
theorem aXz{dl:Int}{sk dc:List (List Int)}{o:List Int}{i:Nat}{t:List (Int × Bool)}{y100 y101 y102 y103 y104 y105 z106 z107 z108 z109 z110 z111:Int}{b112:Bool}{T113:List (Int × Bool)}{b114:Bool}{T115:List (Int × Bool)}{i':Nat}{t':List (Int × Bool)}(h0:(i:Int)<(dc.length:Int))(h1:dc[i]? = some [y100,y101,y102,y103,y104,y105])(h2:uni 6 dc)(h3:aIy dl sk dc bR [y100,y101,y102,y103,y104,y105] [z106,z107,z108,z109,z110,z111] b112 t T113)(h4:(gC y101)=true)(h5:pT dl sk dc bR [y100,y101,y102,y103,y104,y105] b114 T113 T115)(h6:b114=true)(h7:b112=true)(h8:inR (((i+1):Nat):Int))(ei':i'=(i+1))(et'e:aH t'=(aH T115))(et'k:t'.length=T115.length):aC Tryz.prog 0 mN (eR dl sk dc o.length (o.map aA) i (aH t) t.length) .normal (eR dl sk dc o.length (o.map aA) i' (aH t') t'.length):=by
 subst ei'
 have raw:aC Tryz.prog 0 mN (eR dl sk dc o.length (o.map aA) i (aH t) t.length) .normal (eR dl sk dc o.length (o.map aA) (i+1) (aH T115) T115.length):=aC.fin (g:=⟨(rng [(0,2),(5,10),(18,29)]),[0,1,2,3,4,5,6,7,8],[],[]⟩) (o:=[bT,.x (dcE y100 y101 y102 y103 y104 y105),.c (.tup [(.p (dcE z106 z107 z108 z109 z110 z111)),(.p (blP b112))]) (vU dl sk dc bR T113),.c (.p (blP (gC y101))) [],bT,bT,bT,bT,.c (.p (blP b114)) (vU dl sk dc bR T115),bT,bT,bT,bT,bF]) (l:=[_,_,_,_,_,_,FC Tryz.prog 154 [(.p (dcE y100 y101 y102 y103 y104 y105)),(.ptr 4 0),(.ptr 5 0),(.ptr 0 0),(.ptr 2 0)] [(4,(.box 207 [(.mp 3)])),(5,(vB5 dl sk dc)),(0,(vB0 dl sk dc)),(2,vB2),(3,(.mp (aH T113) T113.length)),(6,vB6),(1,(.box 33 [(.p bR)]))] 11 (.p (blP b114)) (vU dl sk dc bR T115),_,_,_,_,_,FC Tryz.prog 156 [(.p (dcE y100 y101 y102 y103 y104 y105)),(.ptr 6 0)] [(6,vB6),(0,(vB0 dl sk dc)),(2,vB2),(4,(.box 207 [(.mp 3)])),(5,(vB5 dl sk dc)),(1,(.box 33 [(.p bR)])),(3,(.mp (aH t) t.length))] 10 (.tup [(.p (dcE z106 z107 z108 z109 z110 z111)),(.p (blP b112))]) (vU dl sk dc bR T113),_,_,0≤(i:Int)∧(i:Int)<(dc.length:Int)∧(i*6)<(dc.flatten.map aA).length,_]) (by kernel_rfl) (gc h8 (gc (aI h7) (gc h6 (gc h6 (gc h6 (gc h4 (gc (FMM.fc (ids:=[0,1,2,3,4,5,6]) h5 (by kernel_rfl)) (gc h4 (gc h4 (gc h4 (gc h4 (gc (fk 11 (vH y101) rfl) (gc (FMM.fc (ids:=[0,1,2,3,4,5,6]) h3 (by kernel_rfl)) (gc (aQ (i:=i) h2 h1) (gc (bD (i:=i) h2 h1) (gc (bB (k:=6) (i:=(i:Int)) (by decide) h2 (Int.natCast_nonneg _) h1) (gc (aL h0) gn)))))))))))))))))
 exact raw.cast (by rw [et'e,et'k])
theorem aYa{dl:Int}{sk dc:List (List Int)}{o:List Int}{i:Nat}{t:List (Int × Bool)}{y100 y101 y102 y103 y104 y105 z106 z107 z108 z109 z110 z111:Int}{b112:Bool}{T113:List (Int × Bool)}{b114:Bool}{T115:List (Int × Bool)}{i':Nat}{t':List (Int × Bool)}(h0:(i:Int)<(dc.length:Int))(h1:dc[i]? = some [y100,y101,y102,y103,y104,y105])(h2:uni 6 dc)(h3:aIy dl sk dc bR [y100,y101,y102,y103,y104,y105] [z106,z107,z108,z109,z110,z111] b112 t T113)(h4:(gC y101)=true)(h5:pT dl sk dc bR [y100,y101,y102,y103,y104,y105] b114 T113 T115)(h6:b114=false)(h7:inR (((i+1):Nat):Int))(ei':i'=(i+1))(et'e:aH t'=(aH T115))(et'k:t'.length=T115.length):aC Tryz.prog 0 mN (eR dl sk dc o.length (o.map aA) i (aH t) t.length) .normal (eR dl sk dc o.length (o.map aA) i' (aH t') t'.length):=by
 subst ei'
 have raw:aC Tryz.prog 0 mN (eR dl sk dc o.length (o.map aA) i (aH t) t.length) .normal (eR dl sk dc o.length (o.map aA) (i+1) (aH T115) T115.length):=aC.fin (g:=⟨(rng [(0,2),(5,10),(18,29)]),[0,1,2,3,4,5,6,7,8],[],[]⟩) (o:=[bT,.x (dcE y100 y101 y102 y103 y104 y105),.c (.tup [(.p (dcE z106 z107 z108 z109 z110 z111)),(.p (blP b112))]) (vU dl sk dc bR T113),.c (.p (blP (gC y101))) [],bT,bT,bT,bT,.c (.p (blP b114)) (vU dl sk dc bR T115),bT,bF,bF,bF]) (l:=[_,_,_,_,_,FC Tryz.prog 154 [(.p (dcE y100 y101 y102 y103 y104 y105)),(.ptr 4 0),(.ptr 5 0),(.ptr 0 0),(.ptr 2 0)] [(4,(.box 207 [(.mp 3)])),(5,(vB5 dl sk dc)),(0,(vB0 dl sk dc)),(2,vB2),(3,(.mp (aH T113) T113.length)),(6,vB6),(1,(.box 33 [(.p bR)]))] 11 (.p (blP b114)) (vU dl sk dc bR T115),_,_,_,_,_,FC Tryz.prog 156 [(.p (dcE y100 y101 y102 y103 y104 y105)),(.ptr 6 0)] [(6,vB6),(0,(vB0 dl sk dc)),(2,vB2),(4,(.box 207 [(.mp 3)])),(5,(vB5 dl sk dc)),(1,(.box 33 [(.p bR)])),(3,(.mp (aH t) t.length))] 10 (.tup [(.p (dcE z106 z107 z108 z109 z110 z111)),(.p (blP b112))]) (vU dl sk dc bR T113),_,_,0≤(i:Int)∧(i:Int)<(dc.length:Int)∧(i*6)<(dc.flatten.map aA).length,_]) (by kernel_rfl) (gc h7 (gc h6 (gc h6 (gc h6 (gc h4 (gc (FMM.fc (ids:=[0,1,2,3,4,5,6]) h5 (by kernel_rfl)) (gc h4 (gc h4 (gc h4 (gc h4 (gc (fk 11 (vH y101) rfl) (gc (FMM.fc (ids:=[0,1,2,3,4,5,6]) h3 (by kernel_rfl)) (gc (aQ (i:=i) h2 h1) (gc (bD (i:=i) h2 h1) (gc (bB (k:=6) (i:=(i:Int)) (by decide) h2 (Int.natCast_nonneg _) h1) (gc (aL h0) gn))))))))))))))))
 exact raw.cast (by rw [et'e,et'k])
theorem aYb{dl:Int}{sk dc:List (List Int)}{o:List Int}{i:Nat}{t:List (Int × Bool)}{y100 y101 y102 y103 y104 y105 z106 z107 z108 z109 z110 z111:Int}{b112:Bool}{T113:List (Int × Bool)}{i':Nat}{t':List (Int × Bool)}(h0:(i:Int)<(dc.length:Int))(h1:dc[i]? = some [y100,y101,y102,y103,y104,y105])(h2:uni 6 dc)(h3:aIy dl sk dc bR [y100,y101,y102,y103,y104,y105] [z106,z107,z108,z109,z110,z111] b112 t T113)(h4:(gC y101)=false)(h5:inR (((i+1):Nat):Int))(ei':i'=(i+1))(et'e:aH t'=(aH T113))(et'k:t'.length=T113.length):aC Tryz.prog 0 mN (eR dl sk dc o.length (o.map aA) i (aH t) t.length) .normal (eR dl sk dc o.length (o.map aA) i' (aH t') t'.length):=by
 subst ei'
 have raw:aC Tryz.prog 0 mN (eR dl sk dc o.length (o.map aA) i (aH t) t.length) .normal (eR dl sk dc o.length (o.map aA) (i+1) (aH T113) T113.length):=aC.fin (g:=⟨(rng [(0,2),(5,10),(18,29)]),[0,1,2,3,4,5,6,7,8],[],[]⟩) (o:=[bT,.x (dcE y100 y101 y102 y103 y104 y105),.c (.tup [(.p (dcE z106 z107 z108 z109 z110 z111)),(.p (blP b112))]) (vU dl sk dc bR T113),.c (.p (blP (gC y101))) [],bF,bF,bF,bF,bF]) (l:=[_,_,_,_,_,_,_,FC Tryz.prog 156 [(.p (dcE y100 y101 y102 y103 y104 y105)),(.ptr 6 0)] [(6,vB6),(0,(vB0 dl sk dc)),(2,vB2),(4,(.box 207 [(.mp 3)])),(5,(vB5 dl sk dc)),(1,(.box 33 [(.p bR)])),(3,(.mp (aH t) t.length))] 10 (.tup [(.p (dcE z106 z107 z108 z109 z110 z111)),(.p (blP b112))]) (vU dl sk dc bR T113),_,_,0≤(i:Int)∧(i:Int)<(dc.length:Int)∧(i*6)<(dc.flatten.map aA).length,_]) (by kernel_rfl) (gc h5 (gc h4 (gc h4 (gc h4 (gc h4 (gc h4 (gc (fk 11 (vH y101) rfl) (gc (FMM.fc (ids:=[0,1,2,3,4,5,6]) h3 (by kernel_rfl)) (gc (aQ (i:=i) h2 h1) (gc (bD (i:=i) h2 h1) (gc (bB (k:=6) (i:=(i:Int)) (by decide) h2 (Int.natCast_nonneg _) h1) (gc (aL h0) gn))))))))))))
 exact raw.cast (by rw [et'e,et'k])
theorem aYc{dl:Int}{sk dc:List (List Int)}{o:List Int}{i:Nat}{t:List (Int × Bool)}(h0:(dc.length:Int)≤(i:Int)):aC Tryz.prog 0 mN (eR dl sk dc o.length (o.map aA) i (aH t) t.length) (.exit 0) (eR dl sk dc o.length (o.map aA) i (aH t) t.length):=by
 exact aC.fin (g:=⟨(rng [(0,2),(5,10),(18,29)]),[0,1,2,3,4,5,6,7,8],[],[]⟩) (o:=[bF]) (l:=[_]) (by kernel_rfl) (gc (aE h0) gn)
end
section
def bDf(dl:Int)(oc:List Int)(dc:List (List Int))(bib:Int)(x:List Int):Bool:=decide (dK x≤4) && (dB x == bib && (dY dl oc dc x && (!(dK x == 4) || aFq dl oc dc x)))
def byI(k t m:Int):Int:=if k=1 then t-m else if k=2 then t+1200*m else if k=3 then t else t+m
def bDg(dl:Int)(oc:List Int)(dc:List (List Int))(bib:Int)(acc:Bool × Int)(x:List Int):Bool × Int:=if bDf dl oc dc bib x then (acc.1 || dK x == 3,byI (dK x) acc.2 (rC dl oc dc x)) else acc
def bRh(dl:Int)(oc:List Int)(dc:List (List Int))(bib time:Int):Bool × Int:=dc.foldl (bDg dl oc dc bib) (time == -1,time)
def kF(dl:Int)(oc:List Int)(dc:List (List Int))(bib time:Int):Int × Bool:=if (bRh dl oc dc bib time).1 then (0,true) else (max 0 (bRh dl oc dc bib time).2,false)
def oO(dl:Int)(dc:List (List Int))(x:List Int):Bool:=gC (dK x) && (dY dl [] dc x && (sF dl [] dc x).isNone)
def aW(dl:Int)(dc:List (List Int)):List Int:=(dc.filter (oO dl dc)).map dN
section
variable {dl:Int} {sk dc:List (List Int)} {oc:List Int} {ov:PV}
theorem bIx(hd:cH dc)(hov:∀ n,qS ov n (oc.contains n)){x:List Int}(hx:x∈dc){T:List (Int × Bool)}(hT:cL dl oc dc T):∃ T' z0 z1 z2 z3 z4 z5,cL dl oc dc T'∧(sF dl oc dc x).getD zero6=[z0,z1,z2,z3,z4,z5]∧aIy dl sk dc ov x [z0,z1,z2,z3,z4,z5] (sF dl oc dc x).isSome T T':=by
 obtain ⟨T',h1,h2⟩:=bUe (sk:=sk) hd hov hx T hT
 cases hr:sF dl oc dc x with
 | none =>
  rw [hr] at h2
  exact ⟨T',0,0,0,0,0,0,h1,rfl,h2⟩
 | some z =>
  have hz:z.length=6:=by
   rw [aAe hd hx] at hr
   exact gQ hd _ z (List.mem_of_find?_eq_some hr)
  obtain ⟨a,b,c,d,e,f,rfl⟩:=len6 hz
  rw [hr] at h2
  exact ⟨T',a,b,c,d,e,f,h1,rfl,h2⟩
theorem aIx(hd:cH dc):∀ (n:Nat) (x:List Int),x∈dc→10000-dN x≤(n:Int)→0≤rC dl oc dc x∧rC dl oc dc x≤36000
 | 0,x,hx,h=>by have:=fR hd hx;omega
 | n+1,x,hx,h=>by
  rw [aQg hd hx]
  cases hr:aFr dl oc dc x with
  | none =>
   have h4:=(iE.1 (hd.rng x hx)).2.2.2
   have:kO (x.getD 1 0)≤36000:=by unfold kO;split <;> omega
   show 0≤x.getD 4 0∧x.getD 4 0≤36000
   omega
  | some z =>
   have hz:z∈cA dc (dN x):=by
    rw [aAf hd hx] at hr
    exact List.mem_of_find?_eq_some hr
   obtain ⟨a1,a2⟩:=pR hd hx hz
   exact aIx hd n z a1 (by omega)
theorem bIy(hd:cH dc){x:List Int}(hx:x∈dc):0≤rC dl oc dc x∧rC dl oc dc x≤36000:=aIx hd 10000 x hx (by have:=fR hd hx;omega)
theorem bUd(hd:cH dc)(hov:∀ n,qS ov n (oc.contains n))(bib:Int){x:List Int}(hx:x∈dc){T:List (Int × Bool)}(hT:cL dl oc dc T):∃ T',cL dl oc dc T'∧wY dl sk dc ov x bib (bDf dl oc dc bib x) T T':=by
 obtain ⟨T1,h1,c1⟩:=bDt (sk:=sk) hd hov hx T hT
 obtain ⟨T2,h2,c2⟩:=bUg (sk:=sk) hd hov hx T1 h1
 obtain ⟨a,k,c,d,e,f,rfl⟩:=len6 (hd.ud x hx)
 unfold bDf
 by_cases hk:k≤4
 ·have hk':decide (k≤4)=true:=decide_eq_true hk
  rw [show decide (dK [a,k,c,d,e,f]≤4)=true from hk',Bool.true_and]
  by_cases hb:d=bib
  ·rw [show (dB [a,k,c,d,e,f] == bib)=true by simpa using hb,Bool.true_and]
   cases hc:dY dl oc dc [a,k,c,d,e,f] with
   | false =>
    rw [hc] at c1
    exact ⟨T1,h1,bRk hk' hb c1 rfl⟩
   | true =>
    rw [hc] at c1
    rw [Bool.true_and]
    by_cases h4:k=4
    ·rw [show (dK [a,k,c,d,e,f] == 4)=true by simpa using h4,Bool.not_true,Bool.false_or]
     exact ⟨T2,h2,bRj hk' hb c1 rfl h4 c2⟩
    ·rw [show (dK [a,k,c,d,e,f] == 4)=false by simpa using h4,Bool.not_false,Bool.true_or]
     exact ⟨T1,h1,bRi hk' hb c1 rfl h4⟩
  ·rw [show (dB [a,k,c,d,e,f] == bib)=false by simpa using hb,Bool.false_and]
   exact ⟨T,hT,bRl hk' hb⟩
 ·have hk':decide (k≤4)=false:=decide_eq_false hk
  rw [show decide (dK [a,k,c,d,e,f]≤4)=false from hk',Bool.false_and]
  exact ⟨T,hT,bRm hk'⟩
theorem bDh(hd:cH dc)(hov:∀ n,qS ov n (oc.contains n))(s0 s1:Int)(hs : -1≤s1∧s1≤360000){T:List (Int × Bool)}(hT:cL dl oc dc T):∃ T',cL dl oc dc T'∧aBb dl sk dc ov [s0,s1] (kF dl oc dc s0 s1).1 (kF dl oc dc s0 s1).2 T T':=by
 have hlen:=hd.len
 obtain ⟨acc,⟨h1,h2,_⟩,h3⟩:=aF.ex (P:=Tryz.prog) (k:=7) (b:=sub (cd Tryz.f134) [1,1,0,1,0,0]) (e := .exit 0) (fun i (a:(Bool × Int) × List (Int × Bool))=>bQ dl sk dc ov s0 s1 a.1.1 a.1.2 i (aH a.2) a.2.length)
  (fun a=>bQ dl sk dc ov s0 s1 a.1.1 a.1.2 dc.length (aH a.2) a.2.length)
  (fun i a=>cL dl oc dc a.2∧a.1=(dc.take i).foldl (bDg dl oc dc s0) (s1 == -1,s1) ∧ -1-36000*(i:Int)≤a.1.2∧a.1.2≤360000+43200000*(i:Int)) (by simp) dc.length
  (fun i acc hi hI=>by
   obtain ⟨⟨out,tot⟩,T1⟩:=acc
   obtain ⟨h1,h2,h3,h4⟩:=hI
   dsimp only at h1 h2 h3 h4
   have hm:=List.getElem_mem hi
   obtain ⟨a,k,c,d,e,f,hy⟩:=len6 (hd.ud _ hm)
   have hx:dc[i]? = some [a,k,c,d,e,f]:=by rw [List.getElem?_eq_getElem hi,hy]
   rw [hy] at hm
   have et:(dc.take (i+1)).foldl (bDg dl oc dc s0) (s1 == -1,s1)=bDg dl oc dc s0 (out,tot) [a,k,c,d,e,f]:=by
    rw [List.take_add_one,hx,List.foldl_append,← h2];rfl
   obtain ⟨T2,q1,q2⟩:=bUd (sk:=sk) hd hov s0 hm h1
   rw [et]
   unfold bDg
   cases hh:bDf dl oc dc s0 [a,k,c,d,e,f] with
   | false =>
    rw [hh] at q2
    exact ⟨((out,tot),T2),⟨q1,by simp,by dsimp only;omega,by dsimp only;omega⟩,aNa (by omega) hx hd.ud q2 rfl (aR (by omega)) rfl rfl rfl⟩
   | true =>
    rw [hh] at q2
    rw [if_pos rfl]
    obtain ⟨T3,q3,q4⟩:=bUh (sk:=sk) hd hov hm T2 q1
    have hb:=bIy (dl:=dl) (oc:=oc) hd hm
    revert q4 hb
    generalize rC dl oc dc [a,k,c,d,e,f]=m
    intro q4 hb
    have hk:0≤k∧k≤4:=by
     have h5:=(iE.1 (hd.rng _ hm)).2.1
     unfold bDf at hh
     rw [Bool.and_eq_true] at hh
     exact ⟨h5.1,of_decide_eq_true hh.1⟩
    have hk5:k=0∨k=1∨k=2∨k=3∨k=4:=by omega
    clear hh
    rcases hk5 with rfl | rfl | rfl | rfl | rfl
    ·have hI:∀ q:Bool,-1-36000*((i+1:Nat):Int)≤tot+m∧tot+m≤360000+43200000*((i+1:Nat):Int):=fun _=>by omega
     cases out with
     | true=>exact ⟨((true,tot+m),T3),⟨q3,rfl,(hI true).1,(hI true).2⟩,aXo (by omega) hx hd.ud q2 rfl rfl q4 (by show inR (tot+m);unfold inR;omega) (aR (by omega)) rfl rfl rfl rfl⟩
     | false=>exact ⟨((false,tot+m),T3),⟨q3,rfl,(hI true).1,(hI true).2⟩,aXp (by omega) hx hd.ud q2 rfl rfl q4 (by show inR (tot+m);unfold inR;omega) (aR (by omega)) rfl rfl rfl rfl rfl⟩
    ·have hI:∀ q:Bool,-1-36000*((i+1:Nat):Int)≤tot-m∧tot-m≤360000+43200000*((i+1:Nat):Int):=fun _=>by omega
     cases out with
     | true=>exact ⟨((true,tot-m),T3),⟨q3,rfl,(hI true).1,(hI true).2⟩,aXq (by omega) hx hd.ud q2 rfl rfl q4 (by show inR (tot-m);unfold inR;omega) (aR (by omega)) rfl rfl rfl rfl⟩
     | false=>exact ⟨((false,tot-m),T3),⟨q3,rfl,(hI true).1,(hI true).2⟩,aXr (by omega) hx hd.ud q2 rfl rfl q4 (by show inR (tot-m);unfold inR;omega) (aR (by omega)) rfl rfl rfl rfl rfl⟩
    ·have hI:∀ q:Bool,-1-36000*((i+1:Nat):Int)≤tot+1200*m∧tot+1200*m≤360000+43200000*((i+1:Nat):Int):=fun _=>by omega
     cases out with
     | true=>exact ⟨((true,tot+1200*m),T3),⟨q3,rfl,(hI true).1,(hI true).2⟩,aXs (by omega) hx hd.ud q2 rfl rfl q4 ⟨by show inR (1200*m);unfold inR;omega,by show inR (tot+1200*m);unfold inR;omega⟩ (aR (by omega)) rfl rfl rfl rfl⟩
     | false=>exact ⟨((false,tot+1200*m),T3),⟨q3,rfl,(hI true).1,(hI true).2⟩,aXt (by omega) hx hd.ud q2 rfl rfl q4 ⟨by show inR (1200*m);unfold inR;omega,by show inR (tot+1200*m);unfold inR;omega⟩ (aR (by omega)) rfl rfl rfl rfl rfl⟩
    ·have hI:∀ q:Bool,-1-36000*((i+1:Nat):Int)≤tot∧tot≤360000+43200000*((i+1:Nat):Int):=fun _=>by omega
     cases out with
     | true=>exact ⟨((true,tot),T3),⟨q3,rfl,(hI true).1,(hI true).2⟩,aXu (by omega) hx hd.ud q2 rfl rfl q4 (aR (by omega)) rfl rfl rfl⟩
     | false=>exact ⟨((true,tot),T3),⟨q3,rfl,(hI true).1,(hI true).2⟩,aXv (by omega) hx hd.ud q2 rfl rfl q4 (aR (by omega)) rfl rfl rfl rfl⟩
    ·have hI:∀ q:Bool,-1-36000*((i+1:Nat):Int)≤tot+m∧tot+m≤360000+43200000*((i+1:Nat):Int):=fun _=>by omega
     cases out with
     | true=>exact ⟨((true,tot+m),T3),⟨q3,rfl,(hI true).1,(hI true).2⟩,aXw (by omega) hx hd.ud q2 rfl rfl q4 (by show inR (tot+m);unfold inR;omega) (aR (by omega)) rfl rfl rfl rfl⟩
     | false=>exact ⟨((false,tot+m),T3),⟨q3,rfl,(hI true).1,(hI true).2⟩,aXx (by omega) hx hd.ud q2 rfl rfl q4 (by show inR (tot+m);unfold inR;omega) (aR (by omega)) rfl rfl rfl rfl rfl⟩)
  (fun acc hI=>aNb (by omega)) (acc:=((s1 == -1,s1),T)) ⟨hT,by simp,by dsimp only;omega,by dsimp only;omega⟩
 obtain ⟨⟨out,tot⟩,T1⟩:=acc
 dsimp only at h1 h2 h3
 rw [List.take_length] at h2
 have e:bRh dl oc dc s0 s1=(out,tot):=h2.symm
 unfold kF
 rw [e]
 cases out with
 | true=>exact ⟨T1,h1,bRs h3 rfl⟩
 | false=>exact ⟨T1,h1,bRt h3 rfl (by simp) (by simp [wZ];omega)⟩
theorem pQ(hd:cH dc){base:Nat}:FV Tryz.prog 83 [pS dl sk dc] base (.own base) [(base,.row 3 (aW dl dc).length ((aW dl dc).map aA))]:=by
 have hlen:=hd.len
 have hov:=aFm
 obtain ⟨acc,⟨h1,h2⟩,h3⟩:=aF.ex (P:=Tryz.prog) (k:=0) (b:=sub (cd Tryz.f83) [1,1,1,0,1,0,0]) (e := .exit 0) (fun i (a:List Int × List (Int × Bool))=>eR dl sk dc a.1.length (a.1.map aA) i (aH a.2) a.2.length)
  (fun a=>eR dl sk dc a.1.length (a.1.map aA) dc.length (aH a.2) a.2.length)
  (fun i a=>cL dl [] dc a.2∧a.1=((dc.take i).filter (oO dl dc)).map dN) (by simp) dc.length
  (fun i acc hi hI=>by
   obtain ⟨o,T1⟩:=acc
   obtain ⟨h1,h2⟩:=hI
   dsimp only at h1 h2
   have hm:=List.getElem_mem hi
   obtain ⟨a,k,c,d,e,f,hy⟩:=len6 (hd.ud _ hm)
   have hx:dc[i]? = some [a,k,c,d,e,f]:=by rw [List.getElem?_eq_getElem hi,hy]
   rw [hy] at hm
   have ho:o.length≤1000:=by
    rw [h2,List.length_map]
    have:=List.length_filter_le (oO dl dc) (dc.take i)
    rw [List.length_take] at this;omega
   have et:((dc.take (i+1)).filter (oO dl dc)).map dN=o++if oO dl dc [a,k,c,d,e,f] then [a] else []:=by
    rw [List.take_add_one,hx,List.filter_append,List.map_append,← h2]
    congr 1
    show (List.filter (oO dl dc) [[a,k,c,d,e,f]]).map dN=_
    cases hq:oO dl dc [a,k,c,d,e,f] <;> simp [hq]
   rw [et]
   obtain ⟨T2,z0,z1,z2,z3,z4,z5,q1,_,q2⟩:=bIx (sk:=sk) hd hov hm h1
   obtain ⟨T3,q3,q4⟩:=bDt (sk:=sk) hd hov hm T2 q1
   cases ha:gC k with
   | false =>
    have hb:oO dl dc [a,k,c,d,e,f]=false:=by unfold oO;rw [show gC (dK [a,k,c,d,e,f])=false from ha,Bool.false_and]
    rw [hb]
    exact ⟨(o,T2),⟨q1,by simp⟩,aYb (by omega) hx hd.ud q2 ha (aR (by omega)) rfl rfl rfl⟩
   | true =>
    have hb:oO dl dc [a,k,c,d,e,f]=(dY dl [] dc [a,k,c,d,e,f] && (sF dl [] dc [a,k,c,d,e,f]).isNone):=by unfold oO;rw [show gC (dK [a,k,c,d,e,f])=true from ha,Bool.true_and]
    rw [hb]
    cases hc:dY dl [] dc [a,k,c,d,e,f] with
    | false =>
     rw [hc] at q4
     exact ⟨(o,T3),⟨q3,by simp⟩,aYa (by omega) hx hd.ud q2 ha q4 rfl (aR (by omega)) rfl rfl rfl⟩
    | true =>
     rw [hc] at q4
     cases hr:sF dl [] dc [a,k,c,d,e,f] with
     | some z =>
      rw [hr] at q2
      exact ⟨(o,T3),⟨q3,by simp⟩,aXz (by omega) hx hd.ud q2 ha q4 rfl rfl (aR (by omega)) rfl rfl rfl⟩
     | none =>
      rw [hr] at q2
      exact ⟨(o++[a],T3),⟨q3,by simp⟩,aXy (o:=o) (o':=o++[a]) (by omega) hx hd.ud q2 ha q4 rfl rfl ⟨rfl,by omega⟩ (aR (by omega)) (by simp) (by simp) rfl rfl rfl⟩)
  (fun acc hI=>aYc (by omega)) (acc:=([],[])) ⟨cL.nil,by simp⟩
 obtain ⟨o,T1⟩:=acc
 dsimp only at h1 h2 h3
 rw [List.take_length] at h2
 rw [show aW dl dc=o from h2.symm]
 exact bRu h3
end
end
section

noncomputable abbrev aAa:Code:=sub (cd Tryz.f128) [1,0,0,0]
theorem bDe:((0:Int) != (0:Int))=false:=by first | decide | simp
theorem bRd{dl:Int}{sk dc:List (List Int)}{bib y0 y1:Int}(h0:dG dl sk dc)(h1:uni 2 (aB sk)∧(aB sk).length≤1000)(h2:(aN (aB sk) 0).length≤1000)(h3:(0:Int)≤(bC (fun x=>decide (bib=x)) (aN (aB sk) 0)))(h4:(aB sk)[(bC (fun x=>decide (bib=x)) (aN (aB sk) 0)).toNat]? = some [y0,y1])(h5:0≤(bC (fun x=>decide (bib=x)) (aN (aB sk) 0)))(h6:uni 2 (aB sk)){base:Nat}:FV Tryz.prog 135 [(.p (.agg (bH dl sk dc))),(.p (aA bib))] base (.tup [(.rp (aK dl (aB sk) (aB dc)) 0),(.p (.agg [(aA y0),(aA y1)])),(.p (aA 0))]) []:=by
 exact FV.fin Tryz.func135 rfl (o:=[.c (.tup [(.rp (aK dl (aB sk) (aB dc)) 0),(.p (aA 0))]) [],bF,.x (.agg (bH dl (aB sk) (aB dc))),.c (.own 2) [(2,(.row 3 ((aN (aB sk) 0).length) ((aN (aB sk) 0).map aA)))],.c (.p (aA (bC (fun x=>decide (bib=x)) (aN (aB sk) 0)))) [],bF,.x (.sl ((aB sk).length) ((aB sk).flatten.map aA)),.x (.agg [(aA y0),(aA y1)])]) (l:=[_,_,0≤(bC (fun x=>decide (bib=x)) (aN (aB sk) 0))∧(bC (fun x=>decide (bib=x)) (aN (aB sk) 0))<(((aB sk).length:Nat):Int)∧((bC (fun x=>decide (bib=x)) (aN (aB sk) 0)).toNat*2)<((aB sk).flatten.map aA).length,(aK dl (aB sk) (aB dc))[1]? = some (.sl ((aB sk).length) ((aB sk).flatten.map aA)),_,FC Tryz.prog 126 [(.own 2),(.p (aA bib))] [(2,(.row 3 ((aN (aB sk) 0).length) ((aN (aB sk) 0).map aA)))] 3 (.p (aA (bC (fun x=>decide (bib=x)) (aN (aB sk) 0)))) [],_,some (.agg (((aK dl (aB sk) (aB dc)).drop 0).take 3):PV)=some (.agg (bH dl (aB sk) (aB dc))),0+3≤(aK dl (aB sk) (aB dc)).length,_,_]) (by kernel_rfl) (gc (aQ (i:=(bC (fun x=>decide (bib=x)) (aN (aB sk) 0)).toNat) h6 h4) (gc (bD (i:=(bC (fun x=>decide (bib=x)) (aN (aB sk) 0)).toNat) h6 h4) (gc (bB (k:=2) (i:=(bC (fun x=>decide (bib=x)) (aN (aB sk) 0))) (by decide) h6 h5 h4) (gc rfl (gc (aE h3) (gc (fv (zO (aN (aB sk) 0) bib h2)) (gc (fk 2 (mJ dl (aB sk) (aB dc) h1) rfl) (gc rfl (gc (by first | decide | simp) (gc bDe (gc (fk 2 (kA dl sk dc h0) rfl) gn)))))))))))
theorem bRe{dl:Int}{sk dc:List (List Int)}(h0:dG dl sk dc)(h1:cH (aB dc)){base:Nat}:FV Tryz.prog 19 [(.p (.agg (bH dl sk dc)))] base (.tup [(.p (aJ (aW dl (aB dc)))),(.p (aA 0))]) []:=by
 exact FV.frz (FMM.fin (k:=0) (g:=⟨[],[],[1],[]⟩) rfl Tryz.func19 rfl (o:=[.c (.tup [(.rp (aK dl (aB sk) (aB dc)) 0),(.p (aA 0))]) [],bF,.c (.own 1) [(1,(.row 3 ((aW dl (aB dc)).length) ((aW dl (aB dc)).map aA)))]]) (l:=[_,_,_]) (by kernel_rfl) (gc (fk 1 (pQ (dl:=dl) (sk:=(aB sk)) (dc:=(aB dc)) h1) rfl) (gc bDe (gc (fk 1 (kA dl sk dc h0) rfl) gn)))) (by kernel_rfl)
def gX(dl:Int)(sk:List (List Int))(dc:List (List Int))(u0:Int)(u1:Int)(u2:Int)(u3:Int)(u4:Int)(u5:Int):St:=⟨fr 26 [(0,(.rp (aK dl sk dc) 0)),(3,(.ptr 0 0))],[some (.box 44 [(.p (aA u0)),(.p (aA u1)),(.p (aA u2)),(.p (aA u3)),(.p (aA u4)),(.p (aA u5))])]⟩
theorem bRf{dl:Int}{sk dc:List (List Int)}{x0 x1 x2 x3 x4 x5 u0'0 u1'1 u2'2 u3'3 u4'4 u5'5:Int}(hl0:aF Tryz.prog 0 aAa (gX dl sk dc x0 x1 x2 x3 x4 x5) (.exit 0) (gX dl sk dc u0'0 u1'1 u2'2 u3'3 u4'4 u5'5)){base:Nat}:FV Tryz.prog 128 [(.rp (aK dl sk dc) 0),(.p (dcE x0 x1 x2 x3 x4 x5))] base (.p (aA u3'3)) []:=by
 exact FV.fin Tryz.func128 rfl (o:=[.k 4 ⟨(rng [(1,2),(4,20)]),[0],[],[]⟩ (.exit 0) (gX dl sk dc u0'0 u1'1 u2'2 u3'3 u4'4 u5'5)]) (l:=[_]) (by kernel_rfl) (gc hl0.code gn)
theorem bRg{dl:Int}{sk dc:List (List Int)}{x0 x1 x2 x3 x4 x5 u0'0 u1'1 u2'2 u3'3 u4'4 u5'5:Int}(hl0:aF Tryz.prog 0 aAa (gX dl sk dc x0 x1 x2 x3 x4 x5) .ret (bG (gX dl sk dc u0'0 u1'1 u2'2 u3'3 u4'4 u5'5) [(4,(.p (aA 0)))])){base:Nat}:FV Tryz.prog 128 [(.rp (aK dl sk dc) 0),(.p (dcE x0 x1 x2 x3 x4 x5))] base (.p (aA 0)) []:=by
 exact FV.fin Tryz.func128 rfl (o:=[.k 4 ⟨(rng [(1,2),(4,20)]),[0],[],[]⟩ .ret (bG (gX dl sk dc u0'0 u1'1 u2'2 u3'3 u4'4 u5'5) [(4,(.p (aA 0)))])]) (l:=[_]) (by kernel_rfl) (gc hl0.code gn)
theorem aXl{dl:Int}{sk dc:List (List Int)}{u0 u1 u2 u3 u4 u5 y100 y101 y102 y103 y104 y105:Int}(h0:(decide (u1≤4))=false)(h1:cJ .i64 (atF dc.reverse) (.int .i64 u5))(h2:(dO (atF dc.reverse) (.int .i64 u5))=true)(h3:fD (atF dc.reverse) (.int .i64 u5)=some (dcE y100 y101 y102 y103 y104 y105)):aC Tryz.prog 0 aAa (gX dl sk dc u0 u1 u2 u3 u4 u5) .normal (gX dl sk dc y100 y101 y102 y103 y104 y105):=by
 exact aC.fin (g:=⟨(rng [(1,2),(4,20)]),[0],[],[]⟩) (o:=[.c (.p (blP (decide (u1≤4)))) [],bT,.x (.mp (atF dc.reverse)),bT,.x (dcE y100 y101 y102 y103 y104 y105)]) (l:=[_,_,_,(aK dl sk dc)[3]? = some (.mp (atF dc.reverse)),_,_]) (by kernel_rfl) (gc h3 (gc h2 (gc h1 (gc rfl (gc (bI h0) (gc (fk 1 (eK u1) rfl) gn))))))
theorem aDg{dl:Int}{sk dc:List (List Int)}{u0 u1 u2 u3 u4 u5:Int}(h0:(decide (u1≤4))=false)(h1:cJ .i64 (atF dc.reverse) (.int .i64 u5))(h2:(dO (atF dc.reverse) (.int .i64 u5))=false):aC Tryz.prog 0 aAa (gX dl sk dc u0 u1 u2 u3 u4 u5) .ret (bG (gX dl sk dc u0 u1 u2 u3 u4 u5) [(4,(.p (aA 0)))]):=by
 exact aC.fin (g:=⟨(rng [(1,2),(5,19)]),[0],[],[]⟩) (o:=[.c (.p (blP (decide (u1≤4)))) [],bT,.x (.mp (atF dc.reverse)),bF]) (l:=[_,_,(aK dl sk dc)[3]? = some (.mp (atF dc.reverse)),_,_]) (by kernel_rfl) (gc h2 (gc h1 (gc rfl (gc (bI h0) (gc (fk 1 (eK u1) rfl) gn)))))
theorem aDh{dl:Int}{sk dc:List (List Int)}{u0 u1 u2 u3 u4 u5:Int}(h0:(decide (u1≤4))=true):aC Tryz.prog 0 aAa (gX dl sk dc u0 u1 u2 u3 u4 u5) (.exit 0) (gX dl sk dc u0 u1 u2 u3 u4 u5):=by
 exact aC.fin (g:=⟨(rng [(1,2),(4,20)]),[0],[],[]⟩) (o:=[.c (.p (blP (decide (u1≤4)))) [],bF]) (l:=[_,_]) (by kernel_rfl) (gc (aI h0) (gc (fk 1 (eK u1) rfl) gn))
end
section
def bDa(sk:List (List Int))(bib:Int):Int:=bC (fun x=>decide (bib=x)) (aN sk 0)
theorem bRb{dl:Int}{sk dc:List (List Int)}(h:dG dl sk dc):uni 2 (aB sk)∧(aB sk).length≤1000∧(aN (aB sk) 0).length≤1000:=by
 have:=h.len
 refine ⟨eB h.us,by rw [dV];omega,by rw [kX,dV];omega⟩
theorem bDb{dl:Int}{sk dc:List (List Int)}(h:dG dl sk dc){bib:Int}{i:Nat}{s0 s1:Int}(hp:bDa (aB sk) bib=(i:Int))(hs:(aB sk)[i]? = some [s0,s1]){base:Nat}:FV Tryz.prog 135 [.p (.agg (bH dl sk dc)),.p (aA bib)] base (.tup [pS dl (aB sk) (aB dc),.p (.agg [aA s0,aA s1]),.p (aA 0)]) []:=by
 obtain ⟨h1,h2,h3⟩:=bRb h
 have hp':bC (fun x=>decide (bib=x)) (aN (aB sk) 0)=(i:Int):=hp
 exact bRd h ⟨h1,h2⟩ h3 (by rw [hp'];omega) (by rw [hp'];simpa using hs) (by rw [hp'];omega) h1
theorem bDc{dl:Int}{sk dc:List (List Int)}(h:dG dl sk dc){base:Nat}:FV Tryz.prog 19 [.p (.agg (bH dl sk dc))] base (.tup [.p (aJ (aW dl (aB dc))),.p (aA 0)]) []:=bRe h (lO h)
theorem aPx{q:List (List Int)}(hq:(q.map dN).Nodup):atF q=q.map fun x=>(.int .i64 (dN x),qU x):=by
 have key:∀ (q p:List (List Int)),((p++q).map dN).Nodup→q.foldl jW (p.map fun x=>(.int .i64 (dN x),qU x))=(p++q).map fun x=>(.int .i64 (dN x),qU x):=by
  intro q
  induction q with
  | nil=>intro p _;simp
  | cons x q ih =>
   intro p h
   rw [List.foldl_cons]
   have hn:dO (p.map fun x=>((.int .i64 (dN x),qU x):Value × PV)) (.int .i64 (dN x))=false:=by
    unfold dO
    rw [List.any_eq_false]
    intro e he
    obtain ⟨y,hy,rfl⟩:=List.mem_map.1 he
    rw [List.map_append,List.nodup_append] at h
    have:=h.2.2 (dN y) (List.mem_map.2 ⟨y,hy,rfl⟩) (dN x) (by simp)
    simpa [iA] using this
   have hst:jW (p.map fun x=>((.int .i64 (dN x),qU x):Value × PV)) x=(p.map fun x=>((.int .i64 (dN x),qU x):Value × PV))++[(.int .i64 (dN x),qU x)]:=by
    unfold jW
    rw [hn,if_neg (by simp)]
   rw [hst]
   have e:(p.map fun x=>((.int .i64 (dN x),qU x):Value × PV))++[(.int .i64 (dN x),qU x)]=(p++[x]).map fun x=>((.int .i64 (dN x),qU x):Value × PV):=by simp
   have e2:p++x::q=(p++[x])++q:=by simp
   rw [e,ih (p++[x]) (by rw [← e2];exact h),e2]
 exact key q [] (by simpa using hq)
theorem aIv{dc:List (List Int)}(h:cH dc):(dc.reverse.map dN).Nodup:=by
 rw [List.map_reverse,List.Nodup,List.pairwise_reverse,List.pairwise_map]
 exact h.up.imp fun h=>by omega
theorem tR{dc:List (List Int)}(h:cH dc){n:Int}(hn:inR n):cJ .i64 (atF dc.reverse) (.int .i64 n):=by
 have ha:vJ (atF dc.reverse):=bEg fun x hx=>by have:=fR h (List.mem_reverse.1 hx);omega
 refine ⟨ha.ky,?_,ha.nd⟩
 show (decide (IntKind.i64=IntKind.i64) && (Lit.int .i64 n).wf)=true
 have:(Lit.int .i64 n).wf=true:=by
  have e1:IntKind.i64.min = -9223372036854775808:=rfl
  have e2:IntKind.i64.max=9223372036854775807:=rfl
  unfold inR at hn
  show (decide _ && decide _)=true
  rw [Bool.and_eq_true,decide_eq_true_eq,decide_eq_true_eq,e1,e2]
  omega
 rw [this];rfl
theorem aMy{dc:List (List Int)}(h:cH dc){x:List Int}(hx:x∈dc):dO (atF dc.reverse) (.int .i64 (dN x))=true∧fD (atF dc.reverse) (.int .i64 (dN x))=some (qU x):=by
 rw [aPx (aIv h)]
 have hf:dc.reverse.find? (fun y=>decide (dN y=dN x))=some x:=by
  cases hf:dc.reverse.find? (fun y=>decide (dN y=dN x)) with
  | none =>
   have:=List.find?_eq_none.1 hf x (List.mem_reverse.2 hx)
   simp at this
  | some y =>
   have h1:=List.mem_of_find?_eq_some hf
   have h2:dN y=dN x:=by simpa using List.find?_some hf
   rw [xK h (List.mem_reverse.1 h1) hx h2]
 constructor
 ·unfold dO
  rw [List.any_map]
  exact List.any_eq_true.2 ⟨x,List.mem_reverse.2 hx,by simp [iA]⟩
 ·unfold fD
  rw [List.find?_map]
  have e:(fun e:Value × PV=>decide (iA e.1=iA (Value.int IntKind.i64 (dN x)))) ∘ (fun x:List Int=>((Value.int .i64 (dN x),qU x):Value × PV))=fun y=>decide (dN y=dN x):=rfl
  rw [e,hf];rfl
theorem aPy{dc:List (List Int)}(h:cH dc){n:Int}(hn:∀ x∈dc,dN x≠n):dO (atF dc.reverse) (.int .i64 n)=false:=by
 rw [aPx (aIv h)]
 unfold dO
 rw [List.any_map,List.any_eq_false]
 intro x hx
 have:=hn x (List.mem_reverse.1 hx)
 show ¬ (decide (dN x=n))=true
 simpa using this
def ofN(dc:List (List Int))(n:Int):Option (List Int):=dc.find? fun x=>dN x == n
theorem tS{dc:List (List Int)}{n:Int}{x:List Int}(h:ofN dc n=some x):x∈dc∧dN x=n:=⟨List.mem_of_find?_eq_some h,by simpa using List.find?_some h⟩
theorem aIw{dc:List (List Int)}{n:Int}(h:ofN dc n=none):∀ x∈dc,dN x≠n:=fun x hx=>by simpa using List.find?_eq_none.1 h x hx
theorem aPz{dc:List (List Int)}(hd:cH dc){x:List Int}(hx:x∈dc):ofN dc (dN x)=some x:=by
 cases h:ofN dc (dN x) with
 | none=>exact absurd rfl (aIw h x hx)
 | some y=>obtain ⟨h1,h2⟩:=tS h;rw [xK hd h1 hx h2]
def rB(dc:List (List Int)):Nat→List Int→Int
 | 0,_=>0
 | k+1,x=>if dK x≤4 then dB x else match ofN dc (dAb x) with
  | some y=>rB dc k y
  | none=>0
def tU(dc:List (List Int))(x:List Int):Int:=rB dc (10000+1) x
theorem bRc{dl:Int}{sk dc:List (List Int)}(hd:cH dc):∀ (k:Nat) (a b c d e f:Int),inR f→([a,b,c,d,e,f]∈dc∨b≤4∨∀ y∈dc,dN y≠f)→a<(k:Int) →
  (∃ a' b' c' d' e' f',rB dc (k+1) [a,b,c,d,e,f]=d'∧aF Tryz.prog 0 (sub (cd Tryz.f128) [1,0,0,0]) (gX dl sk dc a b c d e f) (.exit 0) (gX dl sk dc a' b' c' d' e' f')) ∨
  (rB dc (k+1) [a,b,c,d,e,f]=0∧∃ a' b' c' d' e' f',aF Tryz.prog 0 (sub (cd Tryz.f128) [1,0,0,0]) (gX dl sk dc a b c d e f) .ret (bG (gX dl sk dc a' b' c' d' e' f') [(4,.p (aA 0))])):=by
 intro k
 induction k with
 | zero =>
  intro a b c d e f hf hm hk
  by_cases h4:b≤4
  ·refine .inl ⟨a,b,c,d,e,f,?_,.exit (aDh (decide_eq_true h4)) (by simp)⟩
   unfold rB;rw [if_pos (show dK [a,b,c,d,e,f]≤4 from h4)];rfl
  ·rcases hm with hm | hm | hm
   ·have:1≤a:=(fR hd hm).1
    omega
   ·exact absurd hm h4
   ·refine .inr ⟨?_,a,b,c,d,e,f,.exit (aDg (decide_eq_false h4) (tR hd hf) (aPy hd hm)) (by simp)⟩
    unfold rB;rw [if_neg (show ¬ dK [a,b,c,d,e,f]≤4 from h4)]
    have:ofN dc (dAb [a,b,c,d,e,f])=none:=by
     cases h:ofN dc (dAb [a,b,c,d,e,f]) with
     | none=>rfl
     | some y=>exact absurd (tS h).2 (hm y (tS h).1)
    rw [this]
 | succ k ih =>
  intro a b c d e f hf hm hk
  by_cases h4:b≤4
  ·refine .inl ⟨a,b,c,d,e,f,?_,.exit (aDh (decide_eq_true h4)) (by simp)⟩
   unfold rB;rw [if_pos (show dK [a,b,c,d,e,f]≤4 from h4)];rfl
  ·have hu:rB dc (k+1+1) [a,b,c,d,e,f]=match ofN dc (dAb [a,b,c,d,e,f]) with | some y=>rB dc (k+1) y | none=>0:=by
    conv=>lhs;unfold rB
    rw [if_neg (show ¬ dK [a,b,c,d,e,f]≤4 from h4)]
   rw [hu]
   cases h:ofN dc (dAb [a,b,c,d,e,f]) with
   | none=>exact .inr ⟨rfl,a,b,c,d,e,f,.exit (aDg (decide_eq_false h4) (tR hd hf) (aPy hd (aIw h))) (by simp)⟩
   | some y =>
    obtain ⟨h1,h2⟩:=tS h
    rcases hm with hm | hm | hm
    ·obtain ⟨h3,h5⟩:=aMy hd h1
     rw [h2] at h3 h5
     have ho:=hd.ord _ hm
     unfold orB at ho
     rw [if_neg (show ¬ [a,b,c,d,e,f].getD 1 0≤4 from h4)] at ho
     have ho2:=bY.1 ho
     have ho3:f≤a-1:=ho2.2
     obtain ⟨y0,y1,y2,y3,y4,y5,rfl⟩:=len6 (hd.ud y h1)
     have h2':y0=f:=h2
     have hy5:=lD hd _ h1
     have hst:=aXl (dl:=dl) (sk:=sk) (dc:=dc) (u0:=a) (u1:=b) (u2:=c) (u3:=d) (u4:=e) (u5:=f) (decide_eq_false h4) (tR hd hf) h3 h5
     rcases ih y0 y1 y2 y3 y4 y5 (by have q1:0≤y5:=hy5.1;have q2:y5≤9998:=hy5.2;unfold inR;omega) (.inl h1) (by omega) with ⟨a',b',c',d',e',f',q1,q2⟩ | ⟨q1,a',b',c',d',e',f',q2⟩
     ·exact .inl ⟨a',b',c',d',e',f',q1,.step hst q2⟩
     ·exact .inr ⟨q1,a',b',c',d',e',f',.step hst q2⟩
    ·exact absurd hm h4
    ·exact absurd h2 (hm y h1)
theorem bDd{dl:Int}{sk dc:List (List Int)}(hd:cH dc){a b c d e f:Int}(hf:inR f)(hm:[a,b,c,d,e,f]∈dc∨b≤4∨∀ y∈dc,dN y≠f)(ha:a≤9999){base:Nat}:FV Tryz.prog 128 [pS dl sk dc,.p (.agg [aA a,aA b,aA c,aA d,aA e,aA f])] base (.p (aA (tU dc [a,b,c,d,e,f]))) []:=by
 unfold tU
 rcases bRc (dl:=dl) (sk:=sk) hd 10000 a b c d e f hf hm (by omega) with ⟨a',b',c',d',e',f',q1,q2⟩ | ⟨q1,a',b',c',d',e',f',q2⟩
 ·rw [q1];exact bRf q2
 ·rw [q1];exact bRg q2
end
section
section
variable {α:Type}

def mv(A:List α)(x:α)(j:Nat)(R:List α):List α:=A.take j++x::(A.drop j++R)

theorem vN(A:List α)(x:α)(j:Nat)(R:List α)(hj:j≤A.length):(mv A x j R).length=A.length+1+R.length:=by
 unfold mv;simp;omega

theorem aFx(A:List α)(x:α)(j:Nat)(R:List α)(hj:j≤A.length)(t:Nat) :
  (mv A x j R)[t]? = if t<j then A[t]? else if t=j then some x else if t≤A.length then A[t-1]? else R[t-A.length-1]? := by
 unfold mv
 by_cases h1:t<j
 ·rw [if_pos h1,List.getElem?_append_left (by simp;omega),List.getElem?_take_of_lt h1]
 ·rw [if_neg h1,List.getElem?_append_right (by simp;omega)]
  have hl:(A.take j).length=j:=by simp;omega
  rw [hl]
  by_cases h2:t=j
  ·rw [if_pos h2,show t-j=0 by omega];rfl
  ·rw [if_neg h2,show t-j=(t-j-1)+1 by omega,List.getElem?_cons_succ]
   by_cases h3:t≤A.length
   ·rw [if_pos h3,List.getElem?_append_left (by simp;omega),List.getElem?_drop]
    congr 1;omega
   ·rw [if_neg h3,List.getElem?_append_right (by simp;omega)]
    congr 1
    simp;omega

theorem bKe(A:List α)(x:α)(j:Nat)(R:List α)(hj:j≤A.length)(h0:0<j)(y:α)(hy:A[j-1]? = some y) :
  ((mv A x j R).set j y).set (j-1) x=mv A x (j-1) R:=by
 have hl:=vN A x j R hj
 apply List.ext_getElem?
 intro t
 rw [List.getElem?_set,List.getElem?_set,aFx A x (j-1) R (by omega),aFx A x j R hj]
 simp only [List.length_set,hl]
 by_cases h1:j-1=t
 ·subst h1
  rw [if_pos rfl,if_pos (by omega),if_neg (by omega),if_pos rfl]
 ·rw [if_neg h1]
  by_cases h2:j=t
  ·subst h2
   rw [if_pos rfl,if_pos (by omega),if_neg (by omega),if_neg (by omega),if_pos (by omega),hy]
  ·rw [if_neg h2]
   by_cases h3:t<j
   ·rw [if_pos h3,if_pos (by omega)]
   ·rw [if_neg h3,if_neg (by omega:¬ t=j),if_neg (by omega:¬ t<j-1),if_neg (by omega:¬ t=j-1)]

def mQ(lt:α→α→Bool)(x:α)(A:List α):Nat:=(A.reverse.dropWhile (lt x)).length
def ins(lt:α→α→Bool)(A:List α)(x:α):List α:=A.take (mQ lt x A)++x::A.drop (mQ lt x A)
def isort(lt:α→α→Bool)(l:List α):List α:=l.foldl (ins lt) []

theorem kH{p:α→Bool}:∀ (l r:List α),(∀ x∈l,p x=true)→(l++r).dropWhile p=r.dropWhile p
 | [],_,_=>rfl
 | x::l,r,h=>by
  rw [List.cons_append,List.dropWhile_cons,if_pos (h x (by simp))]
  exact kH l r (fun y hy=>h y (by simp [hy]))

theorem aDm(lt:α→α→Bool)(x:α)(A:List α)(j:Nat)(hj:j≤A.length)(h:∀ t (_:t<A.length),j≤t→lt x A[t]=true)
  (h2:j=0∨∃ y,A[j-1]? = some y∧lt x y=false):mQ lt x A=j:=by
 unfold mQ
 have e:A.reverse=(A.drop j).reverse++(A.take j).reverse:=by rw [← List.reverse_append,List.take_append_drop]
 rw [e,kH]
 ·rcases h2 with h0 | ⟨y,hy,hlt⟩
  ·subst h0;simp
  ·by_cases h0:j=0
   ·subst h0;simp
   ·have e2:A.take j=A.take (j-1)++[y]:=by
     rw [show j=(j-1)+1 by omega,List.take_add_one,Nat.add_sub_cancel,hy];rfl
    have hl:(A.take (j-1)).length=j-1:=by simp;omega
    rw [e2,List.reverse_append]
    show ((y::(A.take (j-1)).reverse).dropWhile (lt x)).length=j
    rw [List.dropWhile_cons,hlt]
    simp;omega
 ·intro z hz
  rw [List.mem_reverse] at hz
  obtain ⟨t,ht,rfl⟩:=List.getElem_of_mem hz
  rw [List.getElem_drop]
  exact h (j+t) (by simp at ht;omega) (by omega)

theorem aOc(lt:α→α→Bool)(A:List α)(x:α):(ins lt A x).length=A.length+1:=by
 unfold ins
 simp
 have:mQ lt x A≤A.length:=by
  unfold mQ
  have h2:((A.reverse).dropWhile (lt x)).length≤A.reverse.length:=(List.dropWhile_sublist _).length_le
  simpa using h2
 omega

theorem bTa(A:List α)(x:α)(R:List α):mv A x A.length R=A++x::R:=by unfold mv;simp
theorem bEp(lt:α→α→Bool)(A:List α)(x:α)(R:List α):mv A x (mQ lt x A) R=ins lt A x++R:=by unfold mv ins;simp

theorem uE(lt:α→α→Bool)(l:List α):(isort lt l).length=l.length:=by
 unfold isort
 have:∀ (l A:List α),(l.foldl (ins lt) A).length=A.length+l.length:=by
  intro l
  induction l with
  | nil=>intro A;simp
  | cons x r ih=>intro A;rw [List.foldl_cons,ih,aOc];simp;omega
 rw [this];simp

theorem aOd(lt:α→α→Bool)(l:List α)(k:Nat)(h:k<l.length):isort lt (l.take (k+1))=ins lt (isort lt (l.take k)) l[k]:=by
 unfold isort
 rw [List.take_succ_eq_append_getElem h,List.foldl_append]
 rfl
end
theorem len3{x:List Int}(h:x.length=3):∃ a b c,x=[a,b,c]:=by
 match x,h with
 | [a,b,c],_=>exact ⟨a,b,c,rfl⟩
theorem aDn{α:Type}(lt:α→α→Bool)(l:List α)(y:α):y∈isort lt l↔y∈l:=by
 unfold isort
 have : ∀ (l A:List α),y∈l.foldl (ins lt) A↔y∈A∨y∈l:=by
  intro l
  induction l with
  | nil=>intro A;simp
  | cons x r ih =>
   intro A
   rw [List.foldl_cons,ih]
   have:y∈ins lt A x↔y∈A∨y=x:=by
    unfold ins
    rw [List.mem_append,List.mem_cons]
    constructor
    ·rintro (h | h | h)
     ·exact Or.inl (List.mem_of_mem_take h)
     ·exact Or.inr h
     ·exact Or.inl (List.mem_of_mem_drop h)
    ·rintro (h | h)
     ·rw [← List.take_append_drop (mQ lt x A) A,List.mem_append] at h
      rcases h with h | h
      ·exact Or.inl h
      ·exact Or.inr (Or.inr h)
     ·exact Or.inr (Or.inl h)
   rw [this,List.mem_cons]
   constructor
   ·rintro ((h | h) | h) <;> simp [h]
   ·rintro (h | h | h) <;> simp [h]
 rw [this];simp

section
variable {α:Type}
end
section
variable {α:Type}
end
end
end KV
end Go.Proofs
